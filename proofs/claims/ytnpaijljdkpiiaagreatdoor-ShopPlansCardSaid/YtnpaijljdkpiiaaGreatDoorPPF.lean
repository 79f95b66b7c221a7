import Derived.Test.YtnpaijljdkpiiaaGreatDoorPPE
set_option linter.unusedVariables false
set_option linter.unusedSimpArgs false
namespace Go.Proofs
open Go Go.Ab
set_option maxHeartbeats 8000000
set_option maxRecDepth 100000
attribute [local irreducible] Awp aops aopsL Go.Ab.Pure PureOwn PureTwoM
structure Pn where
 K : List ByteArray
 V : List Int
 out : List Sty
def wantS (q : Wk) (t : Int) : Sty := ⟨q.id, ⟨#[]⟩, 0, 0, q.len, q.wid, t, 0⟩
def planG (bs : List By) : List Wk → Pn → List Sty × Int
 | [], p => (p.out, 0)
 | q :: S, p => if (fitE bs p.out (wantS q (frstM p.K p.V q.af)) q.hr).2 ≠ 0 then ([], 18)
  else planG bs S ⟨pK p.K q.id, pV p.K p.V q.id (fitE bs p.out (wantS q (frstM p.K p.V q.af)) q.hr).1.b, p.out ++ [(fitE bs p.out (wantS q (frstM p.K p.V q.af)) q.hr).1]⟩
def planE (l : List Wk) (bs : List By) : List Sty × Int := if (ordE l).2 ≠ 0 then ([], (ordE l).2) else if checkE bs [] ≠ 0 then ([], checkE bs []) else planG bs (ordE l).1 ⟨[], [], []⟩
def pl1 (bs : List By) (S : List Wk) (i : Nat) (p : Pn) : AState := mkS [(1, .sl (bys bs)), (32, .sl (wks S)), (33, .v (.int .i64 S.length)), (34, .v (.int .i64 i)), (9, .mapv 0), (10, .own 1)] [(0, .map p.K (iav p.V)), (1, .row (stys p.out) 8 48)]
def pl2 (bs : List By) (S : List Wk) (i : Nat) (p : Pn) (q : Wk) (k : Nat) : AState := mkS [(1, .sl (bys bs)), (32, .sl (wks S)), (33, .v (.int .i64 S.length)), (34, .v (.int .i64 i)), (9, .mapv 0), (10, .own 1), (12, .bp 2 0), (39, .sl (strs q.af)), (40, .v (.int .i64 q.af.length)), (41, .v (.int .i64 k)), (13, .v (.int .i64 (frstM p.K p.V (q.af.take k))))] [(0, .map p.K (iav p.V)), (1, .row (stys p.out) 8 48), (2, .box q.cells)]
theorem plan_ok (l : List Wk) (bs : List By) (hl : l.length < 1000) (hb : bs.length < 90000) (ha : ∀ q ∈ l, q.af.length < 1000000) : Pure Tryz.prog 17 [.sl (wks l), .sl (bys bs)] (.tup [.sl (stys (planE l bs).1), .v (.int .i64 (planE l bs).2)]) := by
 have c0 := ordered_ok l (by omega) ha
 have c1 := check_ok bs [] (by omega) (by simp)
 have h1 := ordE_len l
 have h2 := ordE_err l
 have h3 : ∀ q ∈ (ordE l).1, q.af.length < 1000000 := fun q hq => ha q (ordE_mem l q hq)
 unfold planE
 generalize ordE l = R at *
 obtain ⟨S, e⟩ := R
 simp only at h1 h2 h3 c0 ⊢
 clear ha
 by_cases he : e = 0
 ·subst he
  clear h2
  rw [if_neg (by simp)]
  by_cases hc : checkE bs [] = 0
  ·rw [if_neg (by simp [hc])]
   rw [hc] at c1
   generalize hR : planG bs S ⟨[], [], []⟩ = R
   clear hc
   have hnil : stys [] = [] := rfl
   rw [hnil] at c1
   refine fn_pure Tryz.F17 (Nat.le_of_ble_eq_true rfl) ?_; unfold Tryz.ac17 AR AM AO
   repeat' (first
  | (apply Awp.sreg; (case hn => (simp only [List.length_cons, List.length_nil, Nat.reduceAdd] <;> rfl)))
  | (refine st_nil ?_)
  | (apply st_a; (case hc => rfl); (case he => (simp only [go_sem, *] <;> rfl)); (case hu => (simp only [updL_nil, updL_cons] <;> rfl)); (case hp => first | trivial))
  | (apply st_c; (case hc => (simp only [go_sem, *] <;> rfl)); (case hl => (simp only [go_sem, *] <;> rfl)); (case hn => (simp only [go_sem, *] <;> rfl)); (case hp => first | exact c0 | (have hXz := c0; simp only [go_sem, *] at hXz; exact hXz)))
  | (apply st_c; (case hc => (simp only [go_sem, *] <;> rfl)); (case hl => (simp only [go_sem, *] <;> rfl)); (case hn => (simp only [go_sem, *] <;> rfl)); (case hp => first | exact c1 | (have hXz := c1; simp only [go_sem, *] at hXz; exact hXz)))
  | (refine Awp.skip ?_; try simp only [go_sem, *])
  | refine Awp.block ?_
  | (apply Awp.cond; (case hc => (simp only [go_sem, *] <;> rfl)); all_goals (intro hg; (try simp only [Bool.not_true, Bool.not_false, reduceCtorEq] at hg)))
  | refine Awp.seq ?_)
   refine Awp.loop (fun x : Nat × Pn => x.1 ≤ S.length ∧ x.2.V.length = x.2.K.length ∧ x.2.out.length = x.1 ∧ planG bs (S.drop x.1) x.2 = R) 100 (fun x => pl1 bs S x.1 x.2) (fun x => S.length - x.1) (0, ⟨[], [], []⟩) ⟨Nat.zero_le _, rfl, rfl, hR⟩ ?_ ?_
   ·refine Ghost.trans (Ghost.name 10 8 48 rfl (by decide)) ?_
    unfold pl1
    clear h3 hR
    have hiv : iav [] = [] := rfl
    simp only [hiv, hnil]
    (apply Ghost.mk [(0, 16), (1, 22)] []; (case hdead => rfl); (case hinj => rfl); (case hV => (simp only [go_sem, *]) <;> (repeat' (first | refine And.intro ?_ ?_ | exact View.int (by first | rfl | omega | (simp; done) | (rw [wrap_i64] <;> (try simp only [Int.natCast_add]) <;> omega) | (simp [*]; done)) | exact .own rfl (by decide) | exact .mapv rfl (by decide)))); (case hB => (simp only [go_sem, *]) <;> (repeat' (first | refine And.intro ?_ ?_ | exact ⟨_, rfl, .rowE (by first | rfl | omega | (simp; done) | (rw [wrap_i64] <;> (try simp only [Int.natCast_add]) <;> omega) | (simp [*]; done))⟩ | exact ⟨_, rfl, BView.mapE (by first | rfl | omega | (simp; done) | (rw [wrap_i64] <;> (try simp only [Int.natCast_add]) <;> omega) | (simp [*]; done)) (by first | rfl | omega | (simp; done) | (rw [wrap_i64] <;> (try simp only [Int.natCast_add]) <;> omega) | (simp [*]; done))⟩))))
   ·intro ⟨i, p⟩ ⟨hi, hp, ho, hg⟩
    simp only at hi hp ho hg ⊢
    clear hR c0 c1
    by_cases hlt : i < S.length
    ·have hlt' : (i : Int) < S.length := by omega
     have hat := wks_at S i hlt
     have hz : ((S.getD i zeroWk).cells).length = 5 := rfl
     have hal := h3 _ (getD_mem zeroWk hlt)
     have hdr : S.drop i = S.getD i zeroWk :: S.drop (i + 1) := by
      rw [List.drop_eq_getElem_cons hlt]
      simp [List.getD_eq_getElem?_getD, hlt]
     rw [hdr] at hg
     clear h3 hdr
     generalize S.getD i zeroWk = q at *
     have hstep : Hid (R = if (fitE bs p.out (wantS q (frstM p.K p.V q.af)) q.hr).2 ≠ 0 then ([], 18) else planG bs (S.drop (i + 1)) ⟨pK p.K q.id, pV p.K p.V q.id (fitE bs p.out (wantS q (frstM p.K p.V q.af)) q.hr).1.b, p.out ++ [(fitE bs p.out (wantS q (frstM p.K p.V q.af)) q.hr).1]⟩) := hg.symm
     clear hg
     unfold pl1
     repeat' (first
  | (apply Awp.sreg; (case hn => (simp only [List.length_cons, List.length_nil, Nat.reduceAdd] <;> rfl)))
  | (refine st_nil ?_)
  | (apply st_a; (case hc => rfl); (case he => (simp only [go_sem, *] <;> rfl)); (case hu => (simp only [updL_nil, updL_cons] <;> rfl)); (case hp => first | trivial | omega))
  | (refine Awp.skip ?_; try simp only [go_sem, *])
  | refine Awp.block ?_
  | (apply Awp.cond; (case hc => (simp only [go_sem, *] <;> rfl)); all_goals (intro hg; (try simp only [Bool.not_true, Bool.not_false, reduceCtorEq] at hg)))
  | refine Awp.seq ?_)
     refine Awp.loop (fun k : Nat => k ≤ q.af.length) 200 (fun k => pl2 bs S i p q k) (fun k => q.af.length - k) 0 (Nat.zero_le _) ?_ ?_
     ·have e1 : frstM p.K p.V (q.af.take 0) = 0 := rfl
      unfold pl2
      rw [e1]
      (apply Ghost.mk [(0, 0), (2, 103)] []; (case hdead => rfl); (case hinj => rfl); (case hV => (simp only [go_sem, *]) <;> (repeat' (first | refine And.intro ?_ ?_ | exact View.int (by first | rfl | omega | (simp; done) | (rw [wrap_i64] <;> (try simp only [Int.natCast_add]) <;> omega) | (simp [*]; done)) | exact .bp rfl (by decide) | exact .own rfl (by decide) | exact .mapv rfl (by decide)))); (case hB => (simp only [go_sem, *]) <;> (repeat' (first | refine And.intro ?_ ?_ | exact ⟨_, rfl, BView.boxF rfl⟩ | exact ⟨_, rfl, .rowE (by first | rfl | omega | (simp; done) | (rw [wrap_i64] <;> (try simp only [Int.natCast_add]) <;> omega) | (simp [*]; done))⟩ | exact ⟨_, rfl, BView.mapE (by first | rfl | omega | (simp; done) | (rw [wrap_i64] <;> (try simp only [Int.natCast_add]) <;> omega) | (simp [*]; done)) (by first | rfl | omega | (simp; done) | (rw [wrap_i64] <;> (try simp only [Int.natCast_add]) <;> omega) | (simp [*]; done))⟩))))
     ·intro k hk
      by_cases hkt : k < q.af.length
      ·have hkt' : (k : Int) < q.af.length := by omega
       have hsat := strs_at q.af k hkt
       have hf := frstM_step p.K p.V q.af k hkt
       have hg := getM_eq hp (q.af.getD k ⟨#[]⟩)
       unfold imax at hf
       clear hstep
       unfold pl2
       repeat' (first
  | (apply Awp.sreg; (case hn => (simp only [List.length_cons, List.length_nil, Nat.reduceAdd] <;> rfl)))
  | (refine st_nil ?_)
  | (apply st_a; (case hc => rfl); (case he => (simp only [go_sem, *] <;> rfl)); (case hu => (simp only [updL_nil, updL_cons] <;> rfl)); (case hp => first | trivial | omega))
  | (apply Awp.reg; (case hn => (simp only [List.length_cons, List.length_nil, Nat.reduceAdd] <;> rfl)))
  | (refine Awp.skip ?_; try simp only [go_sem, *])
  | refine Awp.block ?_
  | (apply Awp.cond; (case hc => (simp only [go_sem, *] <;> rfl)); all_goals (intro hg; (try simp only [Bool.not_true, Bool.not_false, reduceCtorEq] at hg)))
  | refine Awp.seq ?_)
       refine ⟨k + 1, by omega, by omega, ?_⟩
       (apply Ghost.mk [] []; (case hdead => rfl); (case hinj => rfl); (case hV => (simp only [go_sem, *]) <;> (repeat' (first | refine And.intro ?_ ?_ | exact View.int (by first | rfl | omega | (simp; done) | (rw [wrap_i64] <;> (try simp only [Int.natCast_add]) <;> omega) | (simp [*]; done)) | exact .bp rfl (by decide) | exact .own rfl (by decide) | exact .mapv rfl (by decide)))); (case hB => (simp only [go_sem, *]) <;> (repeat' (first | refine And.intro ?_ ?_ | exact ⟨_, rfl, BView.boxF rfl⟩ | exact ⟨_, rfl, .rowE (by first | rfl | omega | (simp; done) | (rw [wrap_i64] <;> (try simp only [Int.natCast_add]) <;> omega) | (simp [*]; done))⟩ | exact ⟨_, rfl, BView.mapE (by first | rfl | omega | (simp; done) | (rw [wrap_i64] <;> (try simp only [Int.natCast_add]) <;> omega) | (simp [*]; done)) (by first | rfl | omega | (simp; done) | (rw [wrap_i64] <;> (try simp only [Int.natCast_add]) <;> omega) | (simp [*]; done))⟩))))
      ·have hkt' : ¬ (k : Int) < q.af.length := by omega
       have e1 : q.af.take k = q.af := List.take_of_length_le (by omega)
       unfold pl2
       rw [e1]
       have c2 := fit_ok bs p.out (wantS q (frstM p.K p.V q.af)) q.hr hb (by omega)
       unfold wantS at c2
       unfold Hid wantS at hstep
       generalize fitE bs p.out ⟨q.id, ⟨#[]⟩, 0, 0, q.len, q.wid, frstM p.K p.V q.af, 0⟩ q.hr = F at *
       obtain ⟨x, e⟩ := F
       simp only at hstep c2
       by_cases he : e = 0
       ·subst he
        rw [if_neg (by simp)] at hstep
        have hpm := putM_eq p.K p.V q.id x.b
        have hpk := pK_eq p.K q.id
        have hsn : stys p.out ++ [x.cells] = stys (p.out ++ [x]) := by simp [stys]
        simp only [Sty.cells] at hsn
        have hfin : Hid (i + 1 ≤ S.length ∧ (pV p.K p.V q.id x.b).length = (pK p.K q.id).length ∧ (p.out ++ [x]).length = i + 1 ∧ planG bs (S.drop (i + 1)) ⟨pK p.K q.id, pV p.K p.V q.id x.b, p.out ++ [x]⟩ = R) :=
         ⟨by omega, pV_len _ _ _ _ hp, by rw [List.length_append, List.length_singleton]; omega, hstep.symm⟩
        clear hstep e1
        repeat' (first
  | (apply Awp.sreg; (case hn => (simp only [List.length_cons, List.length_nil, Nat.reduceAdd] <;> rfl)))
  | (refine st_nil ?_)
  | (apply st_a; (case hc => rfl); (case he => (simp only [go_sem, *] <;> rfl)); (case hu => (simp only [updL_nil, updL_cons] <;> rfl)); (case hp => first | trivial | (simp; done) | (simp; omega)))
  | (apply st_cd; (case hc => (simp only [go_sem, *] <;> rfl)); (case hl => (simp only [go_sem, *] <;> rfl)); (case hn => (simp only [go_sem, *] <;> rfl)); (case hp => first | exact c2 | (have hXz := c2; simp only [go_sem, *] at hXz; exact hXz)); (case hd => first | exact .v _ | exact .any | exact .nils | (repeat' (first | exact Dry.v _ | exact Dry.any | exact Dry.nils | exact Dry.slE | refine Dry.agg ?_ | refine Dry.tup ?_ | (refine List.forall_mem_cons.2 (And.intro ?_ ?_)) | (intro cQ hQ; cases hQ; done)))); (case hm => first | decide | (simp; done)))
  | (apply Awp.reg; (case hn => (simp only [List.length_cons, List.length_nil, Nat.reduceAdd] <;> rfl)))
  | (refine Awp.skip ?_; try simp only [go_sem, *])
  | (refine Awp.exit ?_; try simp only [go_sem, *])
  | (apply Awp.cond; (case hc => (simp only [go_sem, *] <;> rfl)); all_goals (intro hg; (try simp only [Bool.not_true, Bool.not_false, reduceCtorEq] at hg)))
  | refine Awp.seq ?_)
        refine ⟨(i + 1, ⟨pK p.K q.id, pV p.K p.V q.id x.b, p.out ++ [x]⟩), hfin, by simp only; omega, ?_⟩
        clear hfin
        simp only
        (apply Ghost.mk [(0, 0), (1, 235)] []; (case hdead => rfl); (case hinj => rfl); (case hV => (simp only [go_sem, *]) <;> (repeat' (first | refine And.intro ?_ ?_ | exact View.int (by first | rfl | omega | (simp; done) | (rw [wrap_i64] <;> (try simp only [Int.natCast_add]) <;> omega) | (simp [*]; done)) | exact .own rfl (by decide) | exact .mapv rfl (by decide)))); (case hB => (simp only [go_sem, *]) <;> (repeat' (first | refine And.intro ?_ ?_ | exact ⟨_, rfl, .rowE (by first | rfl | omega | (simp; done) | (rw [wrap_i64] <;> (try simp only [Int.natCast_add]) <;> omega) | (simp [*]; done))⟩ | exact ⟨_, rfl, BView.mapE (by first | rfl | omega | (simp; done) | (rw [wrap_i64] <;> (try simp only [Int.natCast_add]) <;> omega) | (simp [*]; done)) (by first | rfl | omega | (simp; done) | (rw [wrap_i64] <;> (try simp only [Int.natCast_add]) <;> omega) | (simp [*]; done))⟩))))
       ·have he' : (e != 0) = true := by simpa using he
        rw [if_pos he] at hstep
        rw [hstep]
        clear hstep e1
        repeat' (first
  | (apply Awp.sreg; (case hn => (simp only [List.length_cons, List.length_nil, Nat.reduceAdd] <;> rfl)))
  | (refine st_nil ?_)
  | (apply st_a; (case hc => rfl); (case he => (simp only [go_sem, *] <;> rfl)); (case hu => (simp only [updL_nil, updL_cons] <;> rfl)); (case hp => first | trivial))
  | (apply st_cd; (case hc => (simp only [go_sem, *] <;> rfl)); (case hl => (simp only [go_sem, *] <;> rfl)); (case hn => (simp only [go_sem, *] <;> rfl)); (case hp => first | exact c2 | (have hXz := c2; simp only [go_sem, *] at hXz; exact hXz)); (case hd => first | exact .v _ | exact .any | exact .nils | (repeat' (first | exact Dry.v _ | exact Dry.any | exact Dry.nils | exact Dry.slE | refine Dry.agg ?_ | refine Dry.tup ?_ | (refine List.forall_mem_cons.2 (And.intro ?_ ?_)) | (intro cQ hQ; cases hQ; done)))); (case hm => first | decide | (simp; done)))
  | (refine Awp.ret ?_; try simp only [go_sem, *])
  | (refine Awp.exit ?_; try simp only [go_sem, *])
  | (apply Awp.cond; (case hc => (simp only [go_sem, *] <;> rfl)); all_goals (intro hg; (try simp only [Bool.not_true, Bool.not_false, reduceCtorEq] at hg)))
  | refine Awp.seq ?_)
        all_goals repeat' (first | exact Lower.int (by first | rfl | (simp only [true_and, Bool.true_and, Bool.false_and, Bool.and_true, Bool.and_false, Bool.true_or, Bool.false_or, reduceIte, Bool.false_eq_true, *]; done) | (simp only [true_and, reduceIte, Bool.false_eq_true, *] <;> rfl) | (simp [true_and]; done) | (simp_all [true_and]; done) | omega) | exact Lower.nilE (by first | rfl | (simp only [true_and, Bool.true_and, Bool.false_and, Bool.and_true, Bool.and_false, Bool.true_or, Bool.false_or, reduceIte, Bool.false_eq_true, *]; done) | (simp only [true_and, reduceIte, Bool.false_eq_true, *] <;> rfl) | (simp [true_and]; done) | (simp_all [true_and]; done) | omega) | refine Lower.tupF ?_ | refine All2.cons ?_ ?_ | exact All2.nil)
    ·have hlt' : ¬ (i : Int) < S.length := by omega
     have e1 : S.drop i = [] := List.drop_eq_nil_of_le (by omega)
     rw [e1] at hg
     have hR2 : R = (p.out, 0) := hg.symm
     rw [hR2]
     clear hg hR2 e1 h3
     unfold pl1
     repeat' (first
  | (apply Awp.sreg; (case hn => (simp only [List.length_cons, List.length_nil, Nat.reduceAdd] <;> rfl)))
  | (refine st_nil ?_)
  | (apply st_a; (case hc => rfl); (case he => (simp only [go_sem, *] <;> rfl)); (case hu => (simp only [updL_nil, updL_cons] <;> rfl)); (case hp => first | trivial))
  | (refine Awp.ret ?_; try simp only [go_sem, *])
  | (refine Awp.exit ?_; try simp only [go_sem, *])
  | (apply Awp.cond; (case hc => (simp only [go_sem, *] <;> rfl)); all_goals (intro hg; (try simp only [Bool.not_true, Bool.not_false, reduceCtorEq] at hg)))
  | refine Awp.seq ?_)
     all_goals repeat' (first | exact Lower.int (by first | rfl | (simp only [true_and, Bool.true_and, Bool.false_and, Bool.and_true, Bool.and_false, Bool.true_or, Bool.false_or, reduceIte, Bool.false_eq_true, *]; done) | (simp only [true_and, reduceIte, Bool.false_eq_true, *] <;> rfl) | (simp [true_and]; done) | (simp_all [true_and]; done) | omega) | exact Lower.ownE (by simp only [go_sem, *] <;> rfl) (by first | rfl | (simp only [true_and, Bool.true_and, Bool.false_and, Bool.and_true, Bool.and_false, Bool.true_or, Bool.false_or, reduceIte, Bool.false_eq_true, *]; done) | (simp only [true_and, reduceIte, Bool.false_eq_true, *] <;> rfl) | (simp [true_and]; done) | (simp_all [true_and]; done) | omega) | refine Lower.tupF ?_ | refine All2.cons ?_ ?_ | exact All2.nil)
  ·rw [if_pos hc]
   have hc' : (checkE bs [] != 0) = true := by simpa using hc
   have hnil : stys [] = [] := rfl
   rw [hnil] at c1
   generalize checkE bs [] = e at *
   clear h3
   refine fn_pure Tryz.F17 (Nat.le_of_ble_eq_true rfl) ?_; unfold Tryz.ac17 AR AM AO
   repeat' (first
  | (apply Awp.sreg; (case hn => (simp only [List.length_cons, List.length_nil, Nat.reduceAdd] <;> rfl)))
  | (refine st_nil ?_)
  | (apply st_a; (case hc => rfl); (case he => (simp only [go_sem, *] <;> rfl)); (case hu => (simp only [updL_nil, updL_cons] <;> rfl)); (case hp => first | trivial))
  | (apply st_c; (case hc => (simp only [go_sem, *] <;> rfl)); (case hl => (simp only [go_sem, *] <;> rfl)); (case hn => (simp only [go_sem, *] <;> rfl)); (case hp => first | exact c0 | (have hXz := c0; simp only [go_sem, *] at hXz; exact hXz)))
  | (apply st_c; (case hc => (simp only [go_sem, *] <;> rfl)); (case hl => (simp only [go_sem, *] <;> rfl)); (case hn => (simp only [go_sem, *] <;> rfl)); (case hp => first | exact c1 | (have hXz := c1; simp only [go_sem, *] at hXz; exact hXz)))
  | (refine Awp.ret ?_; try simp only [go_sem, *])
  | (refine Awp.skip ?_; try simp only [go_sem, *])
  | (apply Awp.cond; (case hc => (simp only [go_sem, *] <;> rfl)); all_goals (intro hg; (try simp only [Bool.not_true, Bool.not_false, reduceCtorEq] at hg); (try have hg' := hg); (try simp only [decide_eq_true_eq, decide_eq_false_iff_not, Bool.and_eq_true, Bool.or_eq_false_iff, bne_iff_ne, bne_eq_false_iff_eq, beq_iff_eq, beq_eq_false_iff_ne, Int.not_lt, Int.not_le, Int.ofNat_lt, Int.ofNat_le, Int.natCast_inj] at hg')))
  | refine Awp.seq ?_)
   all_goals repeat' (first | exact Lower.int (by first | rfl | (simp only [true_and, Bool.true_and, Bool.false_and, Bool.and_true, Bool.and_false, Bool.true_or, Bool.false_or, reduceIte, Bool.false_eq_true, *]; done) | (simp only [true_and, reduceIte, Bool.false_eq_true, *] <;> rfl) | (simp [true_and]; done) | (simp_all [true_and]; done) | omega) | exact Lower.nilE (by first | rfl | (simp only [true_and, Bool.true_and, Bool.false_and, Bool.and_true, Bool.and_false, Bool.true_or, Bool.false_or, reduceIte, Bool.false_eq_true, *]; done) | (simp only [true_and, reduceIte, Bool.false_eq_true, *] <;> rfl) | (simp [true_and]; done) | (simp_all [true_and]; done) | omega) | refine Lower.tupF ?_ | refine All2.cons ?_ ?_ | exact All2.nil)
 ·rw [if_pos he]
  have he' : (e != 0) = true := by simpa using he
  clear h2 h3
  refine fn_pure Tryz.F17 (Nat.le_of_ble_eq_true rfl) ?_; unfold Tryz.ac17 AR AM AO
  repeat' (first
  | (apply Awp.sreg; (case hn => (simp only [List.length_cons, List.length_nil, Nat.reduceAdd] <;> rfl)))
  | (refine st_nil ?_)
  | (apply st_a; (case hc => rfl); (case he => (simp only [go_sem, *] <;> rfl)); (case hu => (simp only [updL_nil, updL_cons] <;> rfl)); (case hp => first | trivial))
  | (apply st_c; (case hc => (simp only [go_sem, *] <;> rfl)); (case hl => (simp only [go_sem, *] <;> rfl)); (case hn => (simp only [go_sem, *] <;> rfl)); (case hp => first | exact c0 | (have hXz := c0; simp only [go_sem, *] at hXz; exact hXz)))
  | (refine Awp.ret ?_; try simp only [go_sem, *])
  | (apply Awp.cond; (case hc => (simp only [go_sem, *] <;> rfl)); all_goals (intro hg; (try simp only [Bool.not_true, Bool.not_false, reduceCtorEq] at hg); (try have hg' := hg); (try simp only [decide_eq_true_eq, decide_eq_false_iff_not, Bool.and_eq_true, Bool.or_eq_false_iff, bne_iff_ne, bne_eq_false_iff_eq, beq_iff_eq, beq_eq_false_iff_ne, Int.not_lt, Int.not_le, Int.ofNat_lt, Int.ofNat_le, Int.natCast_inj] at hg')))
  | refine Awp.seq ?_)
  all_goals repeat' (first | exact Lower.int (by first | rfl | (simp only [true_and, Bool.true_and, Bool.false_and, Bool.and_true, Bool.and_false, Bool.true_or, Bool.false_or, reduceIte, Bool.false_eq_true, *]; done) | (simp only [true_and, reduceIte, Bool.false_eq_true, *] <;> rfl) | (simp [true_and]; done) | (simp_all [true_and]; done) | omega) | exact Lower.nilE (by first | rfl | (simp only [true_and, Bool.true_and, Bool.false_and, Bool.and_true, Bool.and_false, Bool.true_or, Bool.false_or, reduceIte, Bool.false_eq_true, *]; done) | (simp only [true_and, reduceIte, Bool.false_eq_true, *] <;> rfl) | (simp [true_and]; done) | (simp_all [true_and]; done) | omega) | refine Lower.tupF ?_ | refine All2.cons ?_ ?_ | exact All2.nil)
end Go.Proofs
namespace Go.Proofs
open Go Go.Ab
set_option maxHeartbeats 1000000
def sav (V : List Sty) : List AV := V.map Sty.av
def getS (K : List ByteArray) (V : List Sty) (s : ByteArray) : Sty := match mapIx K s with
 | some i => V.getD i zeroSty
 | none => zeroSty
theorem getS_eq {K : List ByteArray} {V : List Sty} (hl : V.length = K.length) (s : ByteArray) : mapVal (sav V) (.agg zeroSty.cells) (mapIx K s) = .agg (getS K V s).cells := by
 unfold getS
 cases h : mapIx K s with
 | none => rfl
 | some i =>
  have := mapIx_lt h
  simp [mapVal, sav, av, List.getD_eq_getElem?_getD, hl, this, Sty.av]
theorem putS_eq (K : List ByteArray) (V : List Sty) (s : ByteArray) (x : Sty) : putV (sav V) (.agg x.cells) (mapIx K s) = sav (pV K V s x) := by
 unfold pV
 cases h : mapIx K s with
 | none => simp [putV, sav, Sty.av]
 | some i => simp [putV, sav, List.map_set, Sty.av]
structure Sm where
 K : List ByteArray
 V : List Sty
def smS (m : Sm) (x : Sty) : Sm := ⟨pK m.K x.item, pV m.K m.V x.item x⟩
def smG (P : List Sty) : Sm := P.foldl smS ⟨[], []⟩
theorem smG_step (P : List Sty) (i : Nat) (h : i < P.length) : smG (P.take (i + 1)) = smS (smG (P.take i)) (P.getD i zeroSty) := by
 unfold smG
 rw [List.take_add_one, List.getElem?_eq_getElem h, List.foldl_append]
 simp [List.getD_eq_getElem?_getD, h]
theorem smG_len : ∀ (P : List Sty) (m : Sm), m.V.length = m.K.length → (P.foldl smS m).V.length = (P.foldl smS m).K.length
 | [], _, h => h
 | x :: P, m, h => smG_len P (smS m x) (pV_len _ _ _ _ h)
end Go.Proofs
namespace Go.Proofs
open Go Go.Ab
set_option maxHeartbeats 8000000
set_option maxRecDepth 100000
attribute [local irreducible] Awp aops aopsL Go.Ab.Pure PureOwn PureTwoM
def badS (m : Sm) (q : Wk) : Bool := !hasK m.K q.id || ((getS m.K m.V q.id).len != q.len) || ((getS m.K m.V q.id).wid != q.wid) || (IntKind.i64.wrap ((getS m.K m.V q.id).b - (getS m.K m.V q.id).a) != q.hr)
def lateS (m : Sm) (q : Wk) (s : ByteArray) : Bool := decide ((getS m.K m.V q.id).a < (getS m.K m.V s).b)
def anyLate (m : Sm) (q : Wk) : Bool := q.af.any (lateS m q)
def pchkF (l S : List Wk) (P : List Sty) (m : Sm) : Int := if ((P.length : Int) != (l.length : Int) || (m.K.length : Int) != (l.length : Int)) = true then 17 else if S.any (badS m) = true then 17 else if S.any (anyLate m) = true then 11 else 0
def pchkE (l : List Wk) (bs : List By) (P : List Sty) : Int := if (ordE l).2 ≠ 0 then (ordE l).2 else if checkE bs P ≠ 0 then checkE bs P else pchkF l (ordE l).1 P (smG P)
theorem any_hit {α : Type} {p : α → Bool} {l : List α} {d : α} {i : Nat} (h : i < l.length) (hp : p (l.getD i d) = true) : l.any p = true :=
 List.any_eq_true.2 ⟨_, getD_mem d h, hp⟩
theorem any_endD {α : Type} {p : α → Bool} {l : List α} {d : α} {i : Nat} (h : l.length ≤ i) (hp : ∀ j, j < i → p (l.getD j d) = false) : l.any p = false := by
 rw [List.any_eq_false]
 intro x hx
 obtain ⟨j, hj, rfl⟩ := List.getElem_of_mem hx
 have := hp j (by omega)
 rw [List.getD_eq_getElem?_getD, List.getElem?_eq_getElem hj, Option.getD_some] at this
 rw [this]; decide
def ck1 (l S : List Wk) (P : List Sty) (i : Nat) (m : Sm) : AState := mkS [(0, .sl (wks l)), (2, .sl (stys P)), (7, .sl (wks S)), (10, .mapv 0), (36, .sl (stys P)), (37, .v (.int .i64 P.length)), (38, .v (.int .i64 i))] [(0, .map m.K (sav m.V))]
def ck2 (S : List Wk) (i : Nat) (m : Sm) : AState := mkS [(7, .sl (wks S)), (10, .mapv 0), (59, .sl (wks S)), (60, .v (.int .i64 S.length)), (61, .v (.int .i64 i))] [(0, .map m.K (sav m.V))]
def ck3 (S : List Wk) (i : Nat) (m : Sm) : AState := mkS [(10, .mapv 0), (101, .sl (wks S)), (102, .v (.int .i64 S.length)), (103, .v (.int .i64 i))] [(0, .map m.K (sav m.V))]
def ck4 (S : List Wk) (i : Nat) (m : Sm) (q : Wk) (k : Nat) : AState := mkS [(10, .mapv 0), (101, .sl (wks S)), (102, .v (.int .i64 S.length)), (103, .v (.int .i64 i)), (18, .bp 1 0), (108, .sl (strs q.af)), (109, .v (.int .i64 q.af.length)), (110, .v (.int .i64 k))] [(0, .map m.K (sav m.V)), (1, .box q.cells)]
theorem pchk_ok (l : List Wk) (bs : List By) (P : List Sty) (hl : l.length < 1000000) (hb : bs.length < 100000) (hP : P.length < 100000) (ha : ∀ q ∈ l, q.af.length < 1000000) : Pure Tryz.prog 20 [.sl (wks l), .sl (bys bs), .sl (stys P)] (.v (.int .i64 (pchkE l bs P))) := by
 have c0 := ordered_ok l hl ha
 have c1 := check_ok bs P hb hP
 have h1 := ordE_len l
 have h2 := ordE_err l
 have h3 : ∀ q ∈ (ordE l).1, q.af.length < 1000000 := fun q hq => ha q (ordE_mem l q hq)
 unfold pchkE
 generalize ordE l = R at *
 obtain ⟨S, e⟩ := R
 simp only at h1 h2 h3 c0 ⊢
 clear ha
 by_cases he : e = 0
 ·subst he
  clear h2
  rw [if_neg (by simp)]
  by_cases hc : checkE bs P = 0
  ·rw [if_neg (by simp [hc])]
   rw [hc] at c1
   clear hc
   generalize hR : pchkF l S P (smG P) = R
   have hmk : (smG P).V.length = (smG P).K.length := smG_len P ⟨[], []⟩ rfl
   refine fn_pure Tryz.F20 (Nat.le_of_ble_eq_true rfl) ?_; unfold Tryz.ac20 AR AM AO
   repeat' (first
  | (apply Awp.sreg; (case hn => (simp only [List.length_cons, List.length_nil, Nat.reduceAdd] <;> rfl)))
  | (refine st_nil ?_)
  | (apply st_a; (case hc => rfl); (case he => (simp only [go_sem, *] <;> rfl)); (case hu => (simp only [updL_nil, updL_cons] <;> rfl)); (case hp => first | trivial))
  | (apply st_c; (case hc => (simp only [go_sem, *] <;> rfl)); (case hl => (simp only [go_sem, *] <;> rfl)); (case hn => (simp only [go_sem, *] <;> rfl)); (case hp => first | exact c0 | (have hXz := c0; simp only [go_sem, *] at hXz; exact hXz)))
  | (apply st_c; (case hc => (simp only [go_sem, *] <;> rfl)); (case hl => (simp only [go_sem, *] <;> rfl)); (case hn => (simp only [go_sem, *] <;> rfl)); (case hp => first | exact c1 | (have hXz := c1; simp only [go_sem, *] at hXz; exact hXz)))
  | (refine Awp.skip ?_; try simp only [go_sem, *])
  | refine Awp.block ?_
  | (apply Awp.cond; (case hc => (simp only [go_sem, *] <;> rfl)); all_goals (intro hg; (try simp only [Bool.not_true, Bool.not_false, reduceCtorEq] at hg)))
  | refine Awp.seq ?_)
   refine Awp.loop (fun i : Nat => i ≤ P.length) 100 (fun i => ck1 l S P i (smG (P.take i))) (fun i => P.length - i) 0 (Nat.zero_le _) ?_ ?_
   ·have e1 : smG (P.take 0) = ⟨[], []⟩ := rfl
    have e2 : sav [] = [] := rfl
    unfold ck1
    rw [e1]
    simp only [e2]
    clear h3 hR hmk
    (apply Ghost.mk [(0, 16)] []; (case hdead => rfl); (case hinj => rfl); (case hV => (simp only [go_sem, *]) <;> (repeat' (first | refine And.intro ?_ ?_ | exact View.int (by first | rfl | omega | (simp; done) | (rw [wrap_i64] <;> (try simp only [Int.natCast_add]) <;> omega) | (simp [*]; done)) | exact .mapv rfl (by decide)))); (case hB => (simp only [go_sem, *]) <;> (repeat' (first | exact ⟨_, rfl, BView.mapE (by first | rfl | omega | (simp; done) | (rw [wrap_i64] <;> (try simp only [Int.natCast_add]) <;> omega) | (simp [*]; done)) (by first | rfl | omega | (simp; done) | (rw [wrap_i64] <;> (try simp only [Int.natCast_add]) <;> omega) | (simp [*]; done))⟩))))
   ·intro i hi
    by_cases hlt : i < P.length
    ·have hlt' : (i : Int) < P.length := by omega
     have hat := stys_at P i hlt
     have hz : ((P.getD i zeroSty).cells).length = 8 := rfl
     have hst := smG_step P i hlt
     have hps := putS_eq (smG (P.take i)).K (smG (P.take i)).V (P.getD i zeroSty).item (P.getD i zeroSty)
     have hpk := pK_eq (smG (P.take i)).K (P.getD i zeroSty).item
     generalize smG (P.take i) = m at *
     generalize P.getD i zeroSty = x at *
     simp only [Sty.cells] at hps
     unfold smS at hst
     clear c0 c1 h3 hR hmk
     unfold ck1
     repeat' (first
  | (apply Awp.sreg; (case hn => (simp only [List.length_cons, List.length_nil, Nat.reduceAdd] <;> rfl)))
  | (refine st_nil ?_)
  | (apply st_a; (case hc => rfl); (case he => (simp only [go_sem, *] <;> rfl)); (case hu => (simp only [updL_nil, updL_cons] <;> rfl)); (case hp => first | trivial | omega))
  | (apply Awp.reg; (case hn => (simp only [List.length_cons, List.length_nil, Nat.reduceAdd] <;> rfl)))
  | (refine Awp.skip ?_; try simp only [go_sem, *])
  | refine Awp.block ?_
  | (apply Awp.cond; (case hc => (simp only [go_sem, *] <;> rfl)); all_goals (intro hg; (try simp only [Bool.not_true, Bool.not_false, reduceCtorEq] at hg)))
  | refine Awp.seq ?_)
     refine ⟨i + 1, by omega, by omega, ?_⟩
     rw [hst]
     clear hst
     (apply Ghost.mk [] []; (case hdead => rfl); (case hinj => rfl); (case hV => (simp only [go_sem, *]) <;> (repeat' (first | refine And.intro ?_ ?_ | exact View.int (by first | rfl | omega | (simp; done) | (rw [wrap_i64] <;> (try simp only [Int.natCast_add]) <;> omega) | (simp [*]; done)) | exact .mapv rfl (by decide)))); (case hB => (simp only [go_sem, *]) <;> (repeat' (first | exact ⟨_, rfl, BView.mapE (by first | rfl | omega | (simp; done) | (rw [wrap_i64] <;> (try simp only [Int.natCast_add]) <;> omega) | (simp [*]; done)) (by first | rfl | omega | (simp; done) | (rw [wrap_i64] <;> (try simp only [Int.natCast_add]) <;> omega) | (simp [*]; done))⟩))))
    ·have hlt' : ¬ (i : Int) < P.length := by omega
     have e1 : P.take i = P := List.take_of_length_le (by omega)
     rw [e1]
     clear e1 c0 c1
     unfold pchkF at hR
     generalize smG P = m at *
     unfold ck1
     cases hL : ((P.length : Int) != (l.length : Int) || (m.K.length : Int) != (l.length : Int))
     case true =>
      rw [if_pos hL] at hR
      subst hR
      clear h3 hmk
      repeat' (first
  | (apply Awp.sreg; (case hn => (simp only [List.length_cons, List.length_nil, Nat.reduceAdd] <;> rfl)))
  | (refine st_nil ?_)
  | (apply st_a; (case hc => rfl); (case he => (simp only [go_sem, *] <;> rfl)); (case hu => (simp only [updL_nil, updL_cons] <;> rfl)); (case hp => first | trivial))
  | (apply st_m; (case hc => rfl); (case hg => (simp only [go_sem, *] <;> rfl)); (case he => (intro hQz; (try simp only [wantB_t, wantB_f, Bool.and_eq_true, Bool.not_eq_true', Bool.not_true, Bool.not_false, and_true, true_and] at hQz); simp only [go_sem, *] <;> rfl)); (case hp => (intro hQz; (try simp only [wantB_t, wantB_f, Bool.and_eq_true, Bool.not_eq_true', Bool.or_eq_false_iff, decide_eq_true_eq, decide_eq_false_iff_not, beq_iff_eq, beq_eq_false_iff_ne, bne_iff_ne, bne_eq_false_iff_eq, Int.not_lt, Int.not_le, Int.ofNat_lt, Int.ofNat_le] at hQz); first | trivial)))
  | (refine Awp.ret ?_; try simp only [go_sem, *])
  | (refine Awp.exit ?_; try simp only [go_sem, *])
  | (apply Awp.cond; (case hc => (simp only [go_sem, *] <;> rfl)); all_goals (intro hg; (try simp only [Bool.not_true, Bool.not_false, reduceCtorEq] at hg)))
  | refine Awp.seq ?_)
      all_goals repeat' (first | exact Lower.int (by first | rfl | (simp only [true_and, Bool.true_and, Bool.false_and, Bool.and_true, Bool.and_false, Bool.true_or, Bool.false_or, reduceIte, Bool.false_eq_true, *]; done) | (simp only [true_and, reduceIte, Bool.false_eq_true, *] <;> rfl) | (simp [true_and]; done) | (simp_all [true_and]; done) | omega))
     rw [hL, if_neg (by decide)] at hR
     repeat' (first
  | (apply Awp.sreg; (case hn => (simp only [List.length_cons, List.length_nil, Nat.reduceAdd] <;> rfl)))
  | (refine st_nil ?_)
  | (apply st_a; (case hc => rfl); (case he => (simp only [go_sem, *] <;> rfl)); (case hu => (simp only [updL_nil, updL_cons] <;> rfl)); (case hp => first | trivial))
  | (apply st_m; (case hc => rfl); (case hg => (simp only [go_sem, *] <;> rfl)); (case he => (intro hQz; (try simp only [wantB_t, wantB_f, Bool.and_eq_true, Bool.not_eq_true', Bool.not_true, Bool.not_false, and_true, true_and] at hQz); simp only [go_sem, *] <;> rfl)); (case hp => (intro hQz; (try simp only [wantB_t, wantB_f, Bool.and_eq_true, Bool.not_eq_true', Bool.or_eq_false_iff, decide_eq_true_eq, decide_eq_false_iff_not, beq_iff_eq, beq_eq_false_iff_ne, bne_iff_ne, bne_eq_false_iff_eq, Int.not_lt, Int.not_le, Int.ofNat_lt, Int.ofNat_le] at hQz); first | trivial)))
  | (refine Awp.skip ?_; try simp only [go_sem, *])
  | (refine Awp.exit ?_; try simp only [go_sem, *])
  | refine Awp.block ?_
  | (apply Awp.cond; (case hc => (simp only [go_sem, *] <;> rfl)); all_goals (intro hg; (try simp only [Bool.not_true, Bool.not_false, reduceCtorEq] at hg)))
  | refine Awp.seq ?_)
     refine Awp.loop (fun i : Nat => i ≤ S.length ∧ ∀ j, j < i → badS m (S.getD j zeroWk) = false) 200 (fun i => ck2 S i m) (fun i => S.length - i) 0 (by simp) ?_ ?_
     ·unfold ck2
      clear h3 hR hmk hL
      (apply Ghost.mk [] []; (case hdead => rfl); (case hinj => rfl); (case hV => (simp only [go_sem, *]) <;> (repeat' (first | refine And.intro ?_ ?_ | exact View.int (by first | rfl | omega | (simp; done) | (rw [wrap_i64] <;> (try simp only [Int.natCast_add]) <;> omega) | (simp [*]; done)) | exact .mapv rfl (by decide)))); (case hB => (simp only [go_sem, *]) <;> (repeat' (first | exact ⟨_, rfl, BView.mapE (by first | rfl | omega | (simp; done) | (rw [wrap_i64] <;> (try simp only [Int.natCast_add]) <;> omega) | (simp [*]; done)) (by first | rfl | omega | (simp; done) | (rw [wrap_i64] <;> (try simp only [Int.natCast_add]) <;> omega) | (simp [*]; done))⟩))))
     ·intro i ⟨hi, hj⟩
      clear hL
      by_cases hlt : i < S.length
      ·have hlt' : (i : Int) < S.length := by omega
       have hat := wks_at S i hlt
       have hz : ((S.getD i zeroWk).cells).length = 5 := rfl
       have hbad : badS m (S.getD i zeroWk) = true → R = 17 := fun h => by rw [← hR, if_pos (any_hit hlt h)]
       have hnx : badS m (S.getD i zeroWk) = false → Hid (∀ j, j < i + 1 → badS m (S.getD j zeroWk) = false) := fun h => ltSucc hj h
       have hsm := @isSome_has m.K (S.getD i zeroWk).id
       have hv := getS_eq hmk (S.getD i zeroWk).id
       have hy : ((getS m.K m.V (S.getD i zeroWk).id).cells).length = 8 := rfl
       simp only [Sty.cells, zeroSty] at hv
       clear hj hR h3
       generalize S.getD i zeroWk = q at *
       unfold badS at hbad hnx
       generalize getS m.K m.V q.id = y at *
       unfold ck2
       cases h4 : (!hasK m.K q.id || (y.len != q.len) || (y.wid != q.wid) || (IntKind.i64.wrap (y.b - y.a) != q.hr))
       ·have hnx := hnx h4
        clear hbad
        repeat' (first
  | (apply Awp.sreg; (case hn => (simp only [List.length_cons, List.length_nil, Nat.reduceAdd] <;> rfl)))
  | (refine st_nil ?_)
  | (apply st_a; (case hc => rfl); (case he => (simp only [go_sem, *] <;> rfl)); (case hu => (simp only [updL_nil, updL_cons] <;> rfl)); (case hp => first | trivial | omega))
  | (apply st_m; (case hc => rfl); (case hg => (simp only [go_sem, *] <;> rfl)); (case he => (intro hQz; (try simp only [wantB_t, wantB_f, Bool.and_eq_true, Bool.not_eq_true', Bool.not_true, Bool.not_false, and_true, true_and] at hQz); simp only [go_sem, *] <;> rfl)); (case hp => (intro hQz; (try simp only [wantB_t, wantB_f, Bool.and_eq_true, Bool.not_eq_true', Bool.or_eq_false_iff, decide_eq_true_eq, decide_eq_false_iff_not, beq_iff_eq, beq_eq_false_iff_ne, bne_iff_ne, bne_eq_false_iff_eq, Int.not_lt, Int.not_le, Int.ofNat_lt, Int.ofNat_le] at hQz); first | trivial)))
  | (apply Awp.reg; (case hn => (simp only [List.length_cons, List.length_nil, Nat.reduceAdd] <;> rfl)))
  | (refine Awp.skip ?_; try simp only [go_sem, *])
  | refine Awp.block ?_
  | (apply Awp.cond; (case hc => (simp only [go_sem, *] <;> rfl)); all_goals (intro hg; (try simp only [Bool.not_true, Bool.not_false, reduceCtorEq] at hg)))
  | refine Awp.seq ?_)
        refine ⟨i + 1, ⟨by omega, hnx⟩, by omega, ?_⟩
        (apply Ghost.mk [] []; (case hdead => rfl); (case hinj => rfl); (case hV => (simp only [go_sem, *]) <;> (repeat' (first | refine And.intro ?_ ?_ | exact View.int (by first | rfl | omega | (simp; done) | (rw [wrap_i64] <;> (try simp only [Int.natCast_add]) <;> omega) | (simp [*]; done)) | exact .mapv rfl (by decide)))); (case hB => (simp only [go_sem, *]) <;> (repeat' (first | exact ⟨_, rfl, BView.mapE (by first | rfl | omega | (simp; done) | (rw [wrap_i64] <;> (try simp only [Int.natCast_add]) <;> omega) | (simp [*]; done)) (by first | rfl | omega | (simp; done) | (rw [wrap_i64] <;> (try simp only [Int.natCast_add]) <;> omega) | (simp [*]; done))⟩))))
       ·have hbad := hbad h4
        clear hnx
        subst hbad
        repeat' (first
  | (apply Awp.sreg; (case hn => (simp only [List.length_cons, List.length_nil, Nat.reduceAdd] <;> rfl)))
  | (refine st_nil ?_)
  | (apply st_a; (case hc => rfl); (case he => (simp only [go_sem, *] <;> rfl)); (case hu => (simp only [updL_nil, updL_cons] <;> rfl)); (case hp => first | trivial | omega))
  | (apply st_m; (case hc => rfl); (case hg => (simp only [go_sem, *] <;> rfl)); (case he => (intro hQz; (try simp only [wantB_t, wantB_f, Bool.and_eq_true, Bool.not_eq_true', Bool.not_true, Bool.not_false, and_true, true_and] at hQz); simp only [go_sem, *] <;> rfl)); (case hp => (intro hQz; (try simp only [wantB_t, wantB_f, Bool.and_eq_true, Bool.not_eq_true', Bool.or_eq_false_iff, decide_eq_true_eq, decide_eq_false_iff_not, beq_iff_eq, beq_eq_false_iff_ne, bne_iff_ne, bne_eq_false_iff_eq, Int.not_lt, Int.not_le, Int.ofNat_lt, Int.ofNat_le] at hQz); first | trivial)))
  | (refine Awp.ret ?_; try simp only [go_sem, *])
  | (refine Awp.skip ?_; try simp only [go_sem, *])
  | refine Awp.block ?_
  | (apply Awp.cond; (case hc => (simp only [go_sem, *] <;> rfl)); all_goals (intro hg; (try simp only [Bool.not_true, Bool.not_false, reduceCtorEq] at hg)))
  | refine Awp.seq ?_)
        all_goals repeat' (first | exact Lower.int (by first | rfl | (simp only [true_and, Bool.true_and, Bool.false_and, Bool.and_true, Bool.and_false, Bool.true_or, Bool.false_or, reduceIte, Bool.false_eq_true, *]; done) | (simp only [true_and, reduceIte, Bool.false_eq_true, *] <;> rfl) | (simp [true_and]; done) | (simp_all [true_and]; done) | omega))
      ·have hlt' : ¬ (i : Int) < S.length := by omega
       have hne : S.any (badS m) = false := any_endD (d := zeroWk) (by omega) hj
       rw [hne, if_neg (by decide)] at hR
       clear hj hne
       unfold ck2
       repeat' (first
  | (apply Awp.sreg; (case hn => (simp only [List.length_cons, List.length_nil, Nat.reduceAdd] <;> rfl)))
  | (refine st_nil ?_)
  | (apply st_a; (case hc => rfl); (case he => (simp only [go_sem, *] <;> rfl)); (case hu => (simp only [updL_nil, updL_cons] <;> rfl)); (case hp => first | trivial))
  | (refine Awp.exit ?_; try simp only [go_sem, *])
  | refine Awp.block ?_
  | (apply Awp.cond; (case hc => (simp only [go_sem, *] <;> rfl)); all_goals (intro hg; (try simp only [Bool.not_true, Bool.not_false, reduceCtorEq] at hg)))
  | refine Awp.seq ?_)
       refine Awp.loop (fun i : Nat => i ≤ S.length ∧ ∀ j, j < i → anyLate m (S.getD j zeroWk) = false) 300 (fun i => ck3 S i m) (fun i => S.length - i) 0 (by simp) ?_ ?_
       ·unfold ck3
        clear h3 hR hmk
        (apply Ghost.mk [] []; (case hdead => rfl); (case hinj => rfl); (case hV => (simp only [go_sem, *]) <;> (repeat' (first | refine And.intro ?_ ?_ | exact View.int (by first | rfl | omega | (simp; done) | (rw [wrap_i64] <;> (try simp only [Int.natCast_add]) <;> omega) | (simp [*]; done)) | exact .mapv rfl (by decide)))); (case hB => (simp only [go_sem, *]) <;> (repeat' (first | exact ⟨_, rfl, BView.mapE (by first | rfl | omega | (simp; done) | (rw [wrap_i64] <;> (try simp only [Int.natCast_add]) <;> omega) | (simp [*]; done)) (by first | rfl | omega | (simp; done) | (rw [wrap_i64] <;> (try simp only [Int.natCast_add]) <;> omega) | (simp [*]; done))⟩))))
       ·intro i ⟨hi, hj⟩
        by_cases hlt : i < S.length
        ·have hlt' : (i : Int) < S.length := by omega
         have hat := wks_at S i hlt
         have hz : ((S.getD i zeroWk).cells).length = 5 := rfl
         have hal := h3 _ (getD_mem zeroWk hlt)
         have hbad : anyLate m (S.getD i zeroWk) = true → R = 11 := fun h => by rw [← hR, if_pos (any_hit hlt h)]
         have hnx : anyLate m (S.getD i zeroWk) = false → Hid (∀ j, j < i + 1 → anyLate m (S.getD j zeroWk) = false) := fun h => ltSucc hj h
         clear hj hR h3
         generalize S.getD i zeroWk = q at *
         unfold anyLate at hbad hnx
         unfold ck3
         repeat' (first
  | (apply Awp.sreg; (case hn => (simp only [List.length_cons, List.length_nil, Nat.reduceAdd] <;> rfl)))
  | (refine st_nil ?_)
  | (apply st_a; (case hc => rfl); (case he => (simp only [go_sem, *] <;> rfl)); (case hu => (simp only [updL_nil, updL_cons] <;> rfl)); (case hp => first | trivial | omega))
  | (refine Awp.skip ?_; try simp only [go_sem, *])
  | refine Awp.block ?_
  | (apply Awp.cond; (case hc => (simp only [go_sem, *] <;> rfl)); all_goals (intro hg; (try simp only [Bool.not_true, Bool.not_false, reduceCtorEq] at hg)))
  | refine Awp.seq ?_)
         refine Awp.loop (fun k : Nat => k ≤ q.af.length ∧ ∀ j, j < k → lateS m q (q.af.getD j ⟨#[]⟩) = false) 400 (fun k => ck4 S i m q k) (fun k => q.af.length - k) 0 (by simp) ?_ ?_
         ·unfold ck4
          clear hbad hnx
          (apply Ghost.mk [(0, 0), (1, 303)] []; (case hdead => rfl); (case hinj => rfl); (case hV => (simp only [go_sem, *]) <;> (repeat' (first | refine And.intro ?_ ?_ | exact View.int (by first | rfl | omega | (simp; done) | (rw [wrap_i64] <;> (try simp only [Int.natCast_add]) <;> omega) | (simp [*]; done)) | exact .bp rfl (by decide) | exact .mapv rfl (by decide)))); (case hB => (simp only [go_sem, *]) <;> (repeat' (first | refine And.intro ?_ ?_ | exact ⟨_, rfl, BView.boxF rfl⟩ | exact ⟨_, rfl, BView.mapE (by first | rfl | omega | (simp; done) | (rw [wrap_i64] <;> (try simp only [Int.natCast_add]) <;> omega) | (simp [*]; done)) (by first | rfl | omega | (simp; done) | (rw [wrap_i64] <;> (try simp only [Int.natCast_add]) <;> omega) | (simp [*]; done))⟩))))
         ·intro k ⟨hk, hkj⟩
          by_cases hkt : k < q.af.length
          ·have hkt' : (k : Int) < q.af.length := by omega
           have hsat := strs_at q.af k hkt
           have hv1 := getS_eq hmk q.id
           have hv2 := getS_eq hmk (q.af.getD k ⟨#[]⟩)
           have hw1 : ((getS m.K m.V q.id).cells).length = 8 := rfl
           simp only [Sty.cells, zeroSty] at hv1 hv2
           cases h4 : lateS m q (q.af.getD k ⟨#[]⟩)
           ·have hnx2 := ltSucc hkj h4
            change Hid _ at hnx2
            clear hkj hbad hnx
            unfold lateS at h4
            generalize getS m.K m.V (q.af.getD k ⟨#[]⟩) = y at *
            generalize getS m.K m.V q.id = x at *
            unfold ck4
            repeat' (first
  | (apply Awp.sreg; (case hn => (simp only [List.length_cons, List.length_nil, Nat.reduceAdd] <;> rfl)))
  | (refine st_nil ?_)
  | (apply st_a; (case hc => rfl); (case he => (simp only [go_sem, *] <;> rfl)); (case hu => (simp only [updL_nil, updL_cons] <;> rfl)); (case hp => first | trivial | omega))
  | (apply Awp.reg; (case hn => (simp only [List.length_cons, List.length_nil, Nat.reduceAdd] <;> rfl)))
  | (refine Awp.skip ?_; try simp only [go_sem, *])
  | refine Awp.block ?_
  | (apply Awp.cond; (case hc => (simp only [go_sem, *] <;> rfl)); all_goals (intro hg; (try simp only [Bool.not_true, Bool.not_false, reduceCtorEq] at hg)))
  | refine Awp.seq ?_)
            refine ⟨k + 1, ⟨by omega, hnx2⟩, by omega, ?_⟩
            clear hnx2
            (apply Ghost.mk [] []; (case hdead => rfl); (case hinj => rfl); (case hV => (simp only [go_sem, *]) <;> (repeat' (first | refine And.intro ?_ ?_ | exact View.int (by first | rfl | omega | (simp; done) | (rw [wrap_i64] <;> (try simp only [Int.natCast_add]) <;> omega) | (simp [*]; done)) | exact .bp rfl (by decide) | exact .mapv rfl (by decide)))); (case hB => (simp only [go_sem, *]) <;> (repeat' (first | refine And.intro ?_ ?_ | exact ⟨_, rfl, BView.boxF rfl⟩ | exact ⟨_, rfl, BView.mapE (by first | rfl | omega | (simp; done) | (rw [wrap_i64] <;> (try simp only [Int.natCast_add]) <;> omega) | (simp [*]; done)) (by first | rfl | omega | (simp; done) | (rw [wrap_i64] <;> (try simp only [Int.natCast_add]) <;> omega) | (simp [*]; done))⟩))))
           ·have hbad := hbad (any_hit hkt h4)
            clear hkj hnx
            subst hbad
            unfold lateS at h4
            generalize getS m.K m.V (q.af.getD k ⟨#[]⟩) = y at *
            generalize getS m.K m.V q.id = x at *
            unfold ck4
            repeat' (first
  | (apply Awp.sreg; (case hn => (simp only [List.length_cons, List.length_nil, Nat.reduceAdd] <;> rfl)))
  | (refine st_nil ?_)
  | (apply st_a; (case hc => rfl); (case he => (simp only [go_sem, *] <;> rfl)); (case hu => (simp only [updL_nil, updL_cons] <;> rfl)); (case hp => first | trivial | omega))
  | (refine Awp.ret ?_; try simp only [go_sem, *])
  | (refine Awp.skip ?_; try simp only [go_sem, *])
  | refine Awp.block ?_
  | (apply Awp.cond; (case hc => (simp only [go_sem, *] <;> rfl)); all_goals (intro hg; (try simp only [Bool.not_true, Bool.not_false, reduceCtorEq] at hg)))
  | refine Awp.seq ?_)
            all_goals repeat' (first | exact Lower.int (by first | rfl | (simp only [true_and, Bool.true_and, Bool.false_and, Bool.and_true, Bool.and_false, Bool.true_or, Bool.false_or, reduceIte, Bool.false_eq_true, *]; done) | (simp only [true_and, reduceIte, Bool.false_eq_true, *] <;> rfl) | (simp [true_and]; done) | (simp_all [true_and]; done) | omega))
          ·have hkt' : ¬ (k : Int) < q.af.length := by omega
           have hnx := hnx (any_endD (d := ⟨#[]⟩) (by omega) hkj)
           clear hkj hbad
           unfold ck4
           repeat' (first
  | (apply Awp.sreg; (case hn => (simp only [List.length_cons, List.length_nil, Nat.reduceAdd] <;> rfl)))
  | (refine st_nil ?_)
  | (apply st_a; (case hc => rfl); (case he => (simp only [go_sem, *] <;> rfl)); (case hu => (simp only [updL_nil, updL_cons] <;> rfl)); (case hp => first | trivial))
  | (apply Awp.reg; (case hn => (simp only [List.length_cons, List.length_nil, Nat.reduceAdd] <;> rfl)))
  | (refine Awp.exit ?_; try simp only [go_sem, *])
  | (apply Awp.cond; (case hc => (simp only [go_sem, *] <;> rfl)); all_goals (intro hg; (try simp only [Bool.not_true, Bool.not_false, reduceCtorEq] at hg)))
  | refine Awp.seq ?_)
           refine ⟨i + 1, ⟨by omega, hnx⟩, by omega, ?_⟩
           clear hnx
           (apply Ghost.mk [] []; (case hdead => rfl); (case hinj => rfl); (case hV => (simp only [go_sem, *]) <;> (repeat' (first | refine And.intro ?_ ?_ | exact View.int (by first | rfl | omega | (simp; done) | (rw [wrap_i64] <;> (try simp only [Int.natCast_add]) <;> omega) | (simp [*]; done)) | exact .mapv rfl (by decide)))); (case hB => (simp only [go_sem, *]) <;> (repeat' (first | exact ⟨_, rfl, BView.mapE (by first | rfl | omega | (simp; done) | (rw [wrap_i64] <;> (try simp only [Int.natCast_add]) <;> omega) | (simp [*]; done)) (by first | rfl | omega | (simp; done) | (rw [wrap_i64] <;> (try simp only [Int.natCast_add]) <;> omega) | (simp [*]; done))⟩))))
        ·have hlt' : ¬ (i : Int) < S.length := by omega
         have hne : S.any (anyLate m) = false := any_endD (d := zeroWk) (by omega) hj
         rw [hne, if_neg (by decide)] at hR
         clear hj hne h3
         subst hR
         unfold ck3
         repeat' (first
  | (apply Awp.sreg; (case hn => (simp only [List.length_cons, List.length_nil, Nat.reduceAdd] <;> rfl)))
  | (refine st_nil ?_)
  | (apply st_a; (case hc => rfl); (case he => (simp only [go_sem, *] <;> rfl)); (case hu => (simp only [updL_nil, updL_cons] <;> rfl)); (case hp => first | trivial))
  | (refine Awp.ret ?_; try simp only [go_sem, *])
  | (refine Awp.exit ?_; try simp only [go_sem, *])
  | (apply Awp.cond; (case hc => (simp only [go_sem, *] <;> rfl)); all_goals (intro hg; (try simp only [Bool.not_true, Bool.not_false, reduceCtorEq] at hg)))
  | refine Awp.seq ?_)
         all_goals repeat' (first | exact Lower.int (by first | rfl | (simp only [true_and, Bool.true_and, Bool.false_and, Bool.and_true, Bool.and_false, Bool.true_or, Bool.false_or, reduceIte, Bool.false_eq_true, *]; done) | (simp only [true_and, reduceIte, Bool.false_eq_true, *] <;> rfl) | (simp [true_and]; done) | (simp_all [true_and]; done) | omega))
  ·rw [if_pos hc]
   have hc' : (checkE bs P != 0) = true := by simpa using hc
   generalize checkE bs P = e at *
   clear h3
   refine fn_pure Tryz.F20 (Nat.le_of_ble_eq_true rfl) ?_; unfold Tryz.ac20 AR AM AO
   repeat' (first
  | (apply Awp.sreg; (case hn => (simp only [List.length_cons, List.length_nil, Nat.reduceAdd] <;> rfl)))
  | (refine st_nil ?_)
  | (apply st_a; (case hc => rfl); (case he => (simp only [go_sem, *] <;> rfl)); (case hu => (simp only [updL_nil, updL_cons] <;> rfl)); (case hp => first | trivial))
  | (apply st_c; (case hc => (simp only [go_sem, *] <;> rfl)); (case hl => (simp only [go_sem, *] <;> rfl)); (case hn => (simp only [go_sem, *] <;> rfl)); (case hp => first | exact c0 | (have hXz := c0; simp only [go_sem, *] at hXz; exact hXz)))
  | (apply st_c; (case hc => (simp only [go_sem, *] <;> rfl)); (case hl => (simp only [go_sem, *] <;> rfl)); (case hn => (simp only [go_sem, *] <;> rfl)); (case hp => first | exact c1 | (have hXz := c1; simp only [go_sem, *] at hXz; exact hXz)))
  | (refine Awp.ret ?_; try simp only [go_sem, *])
  | (refine Awp.skip ?_; try simp only [go_sem, *])
  | (apply Awp.cond; (case hc => (simp only [go_sem, *] <;> rfl)); all_goals (intro hg; (try simp only [Bool.not_true, Bool.not_false, reduceCtorEq] at hg); (try have hg' := hg); (try simp only [decide_eq_true_eq, decide_eq_false_iff_not, Bool.and_eq_true, Bool.or_eq_false_iff, bne_iff_ne, bne_eq_false_iff_eq, beq_iff_eq, beq_eq_false_iff_ne, Int.not_lt, Int.not_le, Int.ofNat_lt, Int.ofNat_le, Int.natCast_inj] at hg')))
  | refine Awp.seq ?_)
   all_goals repeat' (first | exact Lower.int (by first | rfl | (simp only [true_and, Bool.true_and, Bool.false_and, Bool.and_true, Bool.and_false, Bool.true_or, Bool.false_or, reduceIte, Bool.false_eq_true, *]; done) | (simp only [true_and, reduceIte, Bool.false_eq_true, *] <;> rfl) | (simp [true_and]; done) | (simp_all [true_and]; done) | omega))
 ·rw [if_pos he]
  have he' : (e != 0) = true := by simpa using he
  clear h2 h3
  refine fn_pure Tryz.F20 (Nat.le_of_ble_eq_true rfl) ?_; unfold Tryz.ac20 AR AM AO
  repeat' (first
  | (apply Awp.sreg; (case hn => (simp only [List.length_cons, List.length_nil, Nat.reduceAdd] <;> rfl)))
  | (refine st_nil ?_)
  | (apply st_a; (case hc => rfl); (case he => (simp only [go_sem, *] <;> rfl)); (case hu => (simp only [updL_nil, updL_cons] <;> rfl)); (case hp => first | trivial))
  | (apply st_c; (case hc => (simp only [go_sem, *] <;> rfl)); (case hl => (simp only [go_sem, *] <;> rfl)); (case hn => (simp only [go_sem, *] <;> rfl)); (case hp => first | exact c0 | (have hXz := c0; simp only [go_sem, *] at hXz; exact hXz)))
  | (refine Awp.ret ?_; try simp only [go_sem, *])
  | (apply Awp.cond; (case hc => (simp only [go_sem, *] <;> rfl)); all_goals (intro hg; (try simp only [Bool.not_true, Bool.not_false, reduceCtorEq] at hg); (try have hg' := hg); (try simp only [decide_eq_true_eq, decide_eq_false_iff_not, Bool.and_eq_true, Bool.or_eq_false_iff, bne_iff_ne, bne_eq_false_iff_eq, beq_iff_eq, beq_eq_false_iff_ne, Int.not_lt, Int.not_le, Int.ofNat_lt, Int.ofNat_le, Int.natCast_inj] at hg')))
  | refine Awp.seq ?_)
  all_goals repeat' (first | exact Lower.int (by first | rfl | (simp only [true_and, Bool.true_and, Bool.false_and, Bool.and_true, Bool.and_false, Bool.true_or, Bool.false_or, reduceIte, Bool.false_eq_true, *]; done) | (simp only [true_and, reduceIte, Bool.false_eq_true, *] <;> rfl) | (simp [true_and]; done) | (simp_all [true_and]; done) | omega))
end Go.Proofs
namespace Go.Proofs
open Go Go.Ab
set_option maxHeartbeats 8000000
set_option maxRecDepth 100000
theorem nan60 (x : Int) (w : World) : Calls Tryz.prog 60 #[.int .i64 x] w fun e w' => e = .returned (.bool false) ∧ w' = w := by
 go_enter Tryz.func60, Tryz.ntmps60
 go_wp2
 go_ret
 exact ⟨by simp, rfl⟩
theorem pure_one {P : Program} {f : FuncId} {x v : Value} (hc : Callable P f) (h : ∀ w, Calls P f #[x] w fun e w' => e = .returned v ∧ w' = w) : Go.Ab.Pure P f [.v x] (.v v) := by
 refine ⟨hc, fun ok w cs ha => ?_⟩
 obtain ⟨hl, hv⟩ := ha
 match cs, hl with
 | [a], _ =>
  have h1 := hv 0 (by simp)
  simp only [av_zero, cv, List.getD_cons_zero] at h1
  cases h1
  refine (h w).mono fun e w' ⟨he, hw⟩ => ⟨v, he, ?_, .v _⟩
  subst hw
  exact ⟨rfl, rfl, rfl, Nat.le_refl _, fun _ _ => rfl⟩
theorem nanI_ok (x : Int) : Go.Ab.Pure Tryz.prog 60 [.v (.int .i64 x)] (.v (.bool false)) := pure_one ⟨_, Tryz.func60, by kernel_rfl, by kernel_rfl⟩ (nan60 x)
attribute [local irreducible] Awp aops aopsL Go.Ab.Pure PureOwn PureTwoM
def cmpI (a b : Int) : Int := if a < b then -1 else if b < a then 1 else 0
theorem cmpI_ok (a b : Int) : Pure Tryz.prog 36 [.v (.int .i64 a), .v (.int .i64 b)] (.v (.int .i64 (cmpI a b))) := by
 have c0 := nanI_ok a
 have c1 := nanI_ok b
 unfold cmpI
 by_cases h1 : a < b
 ·rw [if_pos h1]
  refine fn_pure Tryz.F36 (Nat.le_of_ble_eq_true rfl) ?_; unfold Tryz.ac36 AR AM AO
  repeat' (first
  | (apply Awp.sreg; (case hn => (simp only [List.length_cons, List.length_nil, Nat.reduceAdd] <;> rfl)))
  | (refine st_nil ?_)
  | (apply st_a; (case hc => rfl); (case he => (simp only [go_sem, *] <;> rfl)); (case hu => (simp only [updL_nil, updL_cons] <;> rfl)); (case hp => first | trivial))
  | (apply st_c; (case hc => (simp only [go_sem, *] <;> rfl)); (case hl => (simp only [go_sem, *] <;> rfl)); (case hn => (simp only [go_sem, *] <;> rfl)); (case hp => first | exact c0 | (have hXz := c0; simp only [go_sem, *] at hXz; exact hXz)))
  | (apply st_c; (case hc => (simp only [go_sem, *] <;> rfl)); (case hl => (simp only [go_sem, *] <;> rfl)); (case hn => (simp only [go_sem, *] <;> rfl)); (case hp => first | exact c1 | (have hXz := c1; simp only [go_sem, *] at hXz; exact hXz)))
  | (refine Awp.ret ?_; try simp only [go_sem, *])
  | (refine Awp.skip ?_; try simp only [go_sem, *])
  | (apply Awp.cond; (case hc => (simp only [go_sem, *] <;> rfl)); all_goals (intro hg; (try simp only [Bool.not_true, Bool.not_false, reduceCtorEq] at hg); (try have hg' := hg); (try simp only [decide_eq_true_eq, decide_eq_false_iff_not, Bool.and_eq_true, Bool.or_eq_false_iff, bne_iff_ne, bne_eq_false_iff_eq, beq_iff_eq, beq_eq_false_iff_ne, Int.not_lt, Int.not_le, Int.ofNat_lt, Int.ofNat_le, Int.natCast_inj] at hg')))
  | refine Awp.seq ?_)
  all_goals repeat' (first | exact Lower.int (by first | rfl | (simp only [true_and, Bool.true_and, Bool.false_and, Bool.and_true, Bool.and_false, Bool.true_or, Bool.false_or, reduceIte, Bool.false_eq_true, *]; done) | (simp only [true_and, reduceIte, Bool.false_eq_true, *] <;> rfl) | (simp [true_and]; done) | (simp_all [true_and]; done) | omega))
 ·rw [if_neg h1]
  by_cases h2 : b < a
  ·rw [if_pos h2]
   refine fn_pure Tryz.F36 (Nat.le_of_ble_eq_true rfl) ?_; unfold Tryz.ac36 AR AM AO
   repeat' (first
  | (apply Awp.sreg; (case hn => (simp only [List.length_cons, List.length_nil, Nat.reduceAdd] <;> rfl)))
  | (refine st_nil ?_)
  | (apply st_a; (case hc => rfl); (case he => (simp only [go_sem, *] <;> rfl)); (case hu => (simp only [updL_nil, updL_cons] <;> rfl)); (case hp => first | trivial))
  | (apply st_c; (case hc => (simp only [go_sem, *] <;> rfl)); (case hl => (simp only [go_sem, *] <;> rfl)); (case hn => (simp only [go_sem, *] <;> rfl)); (case hp => first | exact c0 | (have hXz := c0; simp only [go_sem, *] at hXz; exact hXz)))
  | (apply st_c; (case hc => (simp only [go_sem, *] <;> rfl)); (case hl => (simp only [go_sem, *] <;> rfl)); (case hn => (simp only [go_sem, *] <;> rfl)); (case hp => first | exact c1 | (have hXz := c1; simp only [go_sem, *] at hXz; exact hXz)))
  | (refine Awp.ret ?_; try simp only [go_sem, *])
  | (refine Awp.skip ?_; try simp only [go_sem, *])
  | (apply Awp.cond; (case hc => (simp only [go_sem, *] <;> rfl)); all_goals (intro hg; (try simp only [Bool.not_true, Bool.not_false, reduceCtorEq] at hg); (try have hg' := hg); (try simp only [decide_eq_true_eq, decide_eq_false_iff_not, Bool.and_eq_true, Bool.or_eq_false_iff, bne_iff_ne, bne_eq_false_iff_eq, beq_iff_eq, beq_eq_false_iff_ne, Int.not_lt, Int.not_le, Int.ofNat_lt, Int.ofNat_le, Int.natCast_inj] at hg')))
  | refine Awp.seq ?_)
   all_goals repeat' (first | exact Lower.int (by first | rfl | (simp only [true_and, Bool.true_and, Bool.false_and, Bool.and_true, Bool.and_false, Bool.true_or, Bool.false_or, reduceIte, Bool.false_eq_true, *]; done) | (simp only [true_and, reduceIte, Bool.false_eq_true, *] <;> rfl) | (simp [true_and]; done) | (simp_all [true_and]; done) | omega))
  ·rw [if_neg h2]
   refine fn_pure Tryz.F36 (Nat.le_of_ble_eq_true rfl) ?_; unfold Tryz.ac36 AR AM AO
   repeat' (first
  | (apply Awp.sreg; (case hn => (simp only [List.length_cons, List.length_nil, Nat.reduceAdd] <;> rfl)))
  | (refine st_nil ?_)
  | (apply st_a; (case hc => rfl); (case he => (simp only [go_sem, *] <;> rfl)); (case hu => (simp only [updL_nil, updL_cons] <;> rfl)); (case hp => first | trivial))
  | (apply st_c; (case hc => (simp only [go_sem, *] <;> rfl)); (case hl => (simp only [go_sem, *] <;> rfl)); (case hn => (simp only [go_sem, *] <;> rfl)); (case hp => first | exact c0 | (have hXz := c0; simp only [go_sem, *] at hXz; exact hXz)))
  | (apply st_c; (case hc => (simp only [go_sem, *] <;> rfl)); (case hl => (simp only [go_sem, *] <;> rfl)); (case hn => (simp only [go_sem, *] <;> rfl)); (case hp => first | exact c1 | (have hXz := c1; simp only [go_sem, *] at hXz; exact hXz)))
  | (refine Awp.ret ?_; try simp only [go_sem, *])
  | (refine Awp.skip ?_; try simp only [go_sem, *])
  | (apply Awp.cond; (case hc => (simp only [go_sem, *] <;> rfl)); all_goals (intro hg; (try simp only [Bool.not_true, Bool.not_false, reduceCtorEq] at hg); (try have hg' := hg); (try simp only [decide_eq_true_eq, decide_eq_false_iff_not, Bool.and_eq_true, Bool.or_eq_false_iff, bne_iff_ne, bne_eq_false_iff_eq, beq_iff_eq, beq_eq_false_iff_ne, Int.not_lt, Int.not_le, Int.ofNat_lt, Int.ofNat_le, Int.natCast_inj] at hg')))
  | refine Awp.seq ?_)
   all_goals repeat' (first | exact Lower.int (by first | rfl | (simp only [true_and, Bool.true_and, Bool.false_and, Bool.and_true, Bool.and_false, Bool.true_or, Bool.false_or, reduceIte, Bool.false_eq_true, *]; done) | (simp only [true_and, reduceIte, Bool.false_eq_true, *] <;> rfl) | (simp [true_and]; done) | (simp_all [true_and]; done) | omega))
theorem clos35 (x y : Sty) : Pure Tryz.prog 35 [x.av, y.av] (.v (.int .i64 (cmpI x.b y.b))) := by
 have c0 := cmpI_ok x.b y.b
 generalize cmpI x.b y.b = R at *
 refine fn_pure Tryz.F35 (Nat.le_of_ble_eq_true rfl) ?_; unfold Tryz.ac35 AR AM AO
 repeat' (first
  | (apply Awp.sreg; (case hn => (simp only [List.length_cons, List.length_nil, Nat.reduceAdd] <;> rfl)))
  | (refine st_nil ?_)
  | (apply st_a; (case hc => rfl); (case he => (simp only [go_sem, *] <;> rfl)); (case hu => (simp only [updL_nil, updL_cons] <;> rfl)); (case hp => first | trivial))
  | (apply st_c; (case hc => (simp only [go_sem, *] <;> rfl)); (case hl => (simp only [go_sem, *] <;> rfl)); (case hn => (simp only [go_sem, *] <;> rfl)); (case hp => first | exact c0 | (have hXz := c0; simp only [go_sem, *] at hXz; exact hXz)))
  | (refine Awp.ret ?_; try simp only [go_sem, *]))
 all_goals repeat' (first | exact Lower.int (by first | rfl | (simp only [true_and, Bool.true_and, Bool.false_and, Bool.and_true, Bool.and_false, Bool.true_or, Bool.false_or, reduceIte, Bool.false_eq_true, *]; done) | (simp only [true_and, reduceIte, Bool.false_eq_true, *] <;> rfl) | (simp [true_and]; done) | (simp_all [true_and]; done) | omega))
def stepX (m x : Sty) : Sty := if decide (0 < cmpI x.b m.b) = true then x else m
def maxS (l : List Sty) (i : Nat) : Sty := (l.take i).foldl stepX (l.getD 0 zeroSty)
theorem maxS_step (l : List Sty) (i : Nat) (h : i < l.length) : maxS l (i + 1) = stepX (maxS l i) (l.getD i zeroSty) := by
 unfold maxS
 rw [take_snoc l zeroSty i h, List.foldl_append]; rfl
theorem maxS_one (l : List Sty) (h : 0 < l.length) : maxS l 1 = l.getD 0 zeroSty := by
 rw [maxS_step l 0 h]
 have e : maxS l 0 = l.getD 0 zeroSty := rfl
 rw [e]
 unfold stepX
 split <;> rfl
theorem maxf_ok (l : List Sty) (h0 : 0 < l.length) (hl : l.length < 1000000) : Pure Tryz.prog 34 [.sl (stys l), .fn 35 []] (maxS l l.length).av := by
 have hat0 := stys_at l 0 h0
 have hz0 : ((l.getD 0 zeroSty).cells).length = 8 := rfl
 have hlp : ¬ (l.length : Int) < 1 := by omega
 have hp0 : (0 : Int) < l.length := by omega
 have hb1 := maxS_one l h0
 refine fn_pure Tryz.F34 (Nat.le_of_ble_eq_true rfl) ?_; unfold Tryz.ac34 AR AM AO
 repeat' (first
  | (apply Awp.sreg; (case hn => (simp only [List.length_cons, List.length_nil, Nat.reduceAdd] <;> rfl)))
  | (refine st_nil ?_)
  | (apply st_a; (case hc => rfl); (case he => (simp only [go_sem, *] <;> rfl)); (case hu => (simp only [updL_nil, updL_cons] <;> rfl)); (case hp => first | trivial))
  | (refine Awp.skip ?_; try simp only [go_sem, *])
  | refine Awp.block ?_
  | (apply Awp.cond; (case hc => (simp only [go_sem, *] <;> rfl)); all_goals (intro hg; (try simp only [Bool.not_true, Bool.not_false, reduceCtorEq] at hg)))
  | refine Awp.seq ?_)
 refine Awp.loop (fun i : Nat => 1 ≤ i ∧ i ≤ l.length) 60 (fun i => mkS [(0, .sl (stys l)), (1, .fn 35 []), (4, .bp 0 0), (5, .bp 1 0), (6, .v (.int .i64 i))] [(0, .box [.v (.string ⟨⟨[]⟩⟩), .v (.string ⟨⟨[]⟩⟩), .v (.int .i64 0), .v (.int .i64 0), .v (.int .i64 0), .v (.int .i64 0), .v (.int .i64 0), .v (.int .i64 0)]), (1, .box (maxS l i).cells)]) (fun i => l.length - i) 1 (by omega) ?_ ?_
 ·rw [hb1]
  (apply Ghost.mk [(0, 0), (1, 7)] []; (case hdead => rfl); (case hinj => rfl); (case hV => (simp only [go_sem, *]) <;> (repeat' (first | refine And.intro ?_ ?_ | exact View.int (by first | rfl | omega | (simp; done) | (rw [wrap_i64] <;> (try simp only [Int.natCast_add]) <;> omega) | (simp [*]; done)) | exact .bp rfl (by decide) | (refine View.fnF ?_; (simp [AV.flat]; done))))); (case hB => (simp only [go_sem, *]) <;> (repeat' (first | refine And.intro ?_ ?_ | exact ⟨_, rfl, BView.boxF rfl⟩))))
 ·intro i ⟨h1, hi⟩
  by_cases hlt : i < l.length
  ·have hlt' : (i : Int) < l.length := by omega
   have hat := stys_at l i hlt
   have hz : ((l.getD i zeroSty).cells).length = 8 := rfl
   have hs := maxS_step l i hlt
   clear hat0 hz0 hb1
   generalize maxS l i = M at *
   generalize l.getD i zeroSty = x at *
   have c1 := clos35 x M
   unfold stepX at hs
   generalize cmpI x.b M.b = k at *
   cases hk : decide (0 < k)
   ·rw [hk, if_neg (by decide)] at hs
    repeat' (first
  | (apply Awp.sreg; (case hn => (simp only [List.length_cons, List.length_nil, Nat.reduceAdd] <;> rfl)))
  | (apply Awp.sdraw; (case hn => (simp only [List.length_cons, List.length_nil, Nat.reduceAdd] <;> rfl)))
  | (refine st_nil ?_)
  | (apply st_a; (case hc => rfl); (case he => (simp only [go_sem, *] <;> rfl)); (case hu => (simp only [updL_nil, updL_cons] <;> rfl)); (case hp => first | trivial))
  | (apply Awp.reg; (case hn => (simp only [List.length_cons, List.length_nil, Nat.reduceAdd] <;> rfl)))
  | (refine Awp.skip ?_; try simp only [go_sem, *])
  | refine Awp.block ?_
  | (apply Awp.cond; (case hc => (simp only [go_sem, *] <;> rfl)); all_goals (intro hg; (try simp only [Bool.not_true, Bool.not_false, reduceCtorEq] at hg)))
  | refine Awp.seq ?_
  | (apply sl_a; (case hc => rfl); (case he => (simp only [go_sem, *] <;> rfl)); (case hu => (simp only [updL_nil, updL_cons] <;> rfl)); (case hl => (simp only [List.map_cons, List.map_nil] <;> rfl)); (case hp => first | trivial | omega))
  | (apply sl_c; (case hc => (simp only [go_sem, *] <;> rfl)); (case hl => (simp only [go_sem, *] <;> rfl)); (case hn => (simp only [go_sem, *] <;> rfl)); (case hp => first | exact c1 | (have hXz := c1; simp only [go_sem, *] at hXz; exact hXz)); (case hd => first | exact .inl rfl | exact .inr (.v _) | exact .inr .any | exact .inr .nils | (refine .inr ?_; (repeat' (first | exact Dry.v _ | exact Dry.any | exact Dry.nils | exact Dry.slE | refine Dry.agg ?_ | refine Dry.tup ?_ | (refine List.forall_mem_cons.2 (And.intro ?_ ?_)) | (intro cQ hQ; cases hQ; done))); done)); (case hm => first | decide | (simp; done)))
  | (refine sl_nil (And.intro (by first | exact drawOk_of (by decide +kernel) | (simp only [List.map_cons, List.map_nil]; exact drawOk_of (by decide +kernel)) | decide) ?_)))
    all_goals (refine ⟨i + 1, by omega, by omega, ?_⟩; rw [hs]; clear hs c1; (apply Ghost.mk [(0, 0), (1, 1)] []; (case hdead => rfl); (case hinj => rfl); (case hV => (simp only [go_sem, *]) <;> (repeat' (first | refine And.intro ?_ ?_ | exact View.int (by first | rfl | omega | (simp; done) | (rw [wrap_i64] <;> (try simp only [Int.natCast_add]) <;> omega) | (simp [*]; done)) | exact .bp rfl (by decide) | (refine View.fnF ?_; (simp [AV.flat]; done))))); (case hB => (simp only [go_sem, *]) <;> (repeat' (first | refine And.intro ?_ ?_ | exact ⟨_, rfl, BView.boxF rfl⟩)))))
   ·rw [hk, if_pos rfl] at hs
    repeat' (first
  | (apply Awp.sreg; (case hn => (simp only [List.length_cons, List.length_nil, Nat.reduceAdd] <;> rfl)))
  | (apply Awp.sdraw; (case hn => (simp only [List.length_cons, List.length_nil, Nat.reduceAdd] <;> rfl)))
  | (refine st_nil ?_)
  | (apply st_a; (case hc => rfl); (case he => (simp only [go_sem, *] <;> rfl)); (case hu => (simp only [updL_nil, updL_cons] <;> rfl)); (case hp => first | trivial | omega))
  | (apply Awp.reg; (case hn => (simp only [List.length_cons, List.length_nil, Nat.reduceAdd] <;> rfl)))
  | (refine Awp.skip ?_; try simp only [go_sem, *])
  | refine Awp.block ?_
  | (apply Awp.cond; (case hc => (simp only [go_sem, *] <;> rfl)); all_goals (intro hg; (try simp only [Bool.not_true, Bool.not_false, reduceCtorEq] at hg)))
  | refine Awp.seq ?_
  | (apply sl_a; (case hc => rfl); (case he => (simp only [go_sem, *] <;> rfl)); (case hu => (simp only [updL_nil, updL_cons] <;> rfl)); (case hl => (simp only [List.map_cons, List.map_nil] <;> rfl)); (case hp => first | trivial | omega))
  | (apply sl_c; (case hc => (simp only [go_sem, *] <;> rfl)); (case hl => (simp only [go_sem, *] <;> rfl)); (case hn => (simp only [go_sem, *] <;> rfl)); (case hp => first | exact c1 | (have hXz := c1; simp only [go_sem, *] at hXz; exact hXz)); (case hd => first | exact .inl rfl | exact .inr (.v _) | exact .inr .any | exact .inr .nils | (refine .inr ?_; (repeat' (first | exact Dry.v _ | exact Dry.any | exact Dry.nils | exact Dry.slE | refine Dry.agg ?_ | refine Dry.tup ?_ | (refine List.forall_mem_cons.2 (And.intro ?_ ?_)) | (intro cQ hQ; cases hQ; done))); done)); (case hm => first | decide | (simp; done)))
  | (refine sl_nil (And.intro (by first | exact drawOk_of (by decide +kernel) | (simp only [List.map_cons, List.map_nil]; exact drawOk_of (by decide +kernel)) | decide) ?_)))
    all_goals (refine ⟨i + 1, by omega, by omega, ?_⟩; rw [hs]; clear hs c1; (apply Ghost.mk [(0, 0), (1, 1)] []; (case hdead => rfl); (case hinj => rfl); (case hV => (simp only [go_sem, *]) <;> (repeat' (first | refine And.intro ?_ ?_ | exact View.int (by first | rfl | omega | (simp; done) | (rw [wrap_i64] <;> (try simp only [Int.natCast_add]) <;> omega) | (simp [*]; done)) | exact .bp rfl (by decide) | (refine View.fnF ?_; (simp [AV.flat]; done))))); (case hB => (simp only [go_sem, *]) <;> (repeat' (first | refine And.intro ?_ ?_ | exact ⟨_, rfl, BView.boxF rfl⟩)))))
  ·have hlt' : ¬ (i : Int) < l.length := by omega
   obtain rfl : i = l.length := by omega
   clear hat0 hz0 hb1
   generalize maxS l l.length = M at *
   repeat' (first
  | (apply Awp.sreg; (case hn => (simp only [List.length_cons, List.length_nil, Nat.reduceAdd] <;> rfl)))
  | (refine st_nil ?_)
  | (apply st_a; (case hc => rfl); (case he => (simp only [go_sem, *] <;> rfl)); (case hu => (simp only [updL_nil, updL_cons] <;> rfl)); (case hp => first | trivial))
  | (refine Awp.ret ?_; try simp only [go_sem, *])
  | (refine Awp.exit ?_; try simp only [go_sem, *])
  | (apply Awp.cond; (case hc => (simp only [go_sem, *] <;> rfl)); all_goals (intro hg; (try simp only [Bool.not_true, Bool.not_false, reduceCtorEq] at hg)))
  | refine Awp.seq ?_)
   all_goals repeat' (first | exact Lower.int (by first | rfl | (simp only [true_and, Bool.true_and, Bool.false_and, Bool.and_true, Bool.and_false, Bool.true_or, Bool.false_or, reduceIte, Bool.false_eq_true, *]; done) | (simp only [true_and, reduceIte, Bool.false_eq_true, *] <;> rfl) | (simp [true_and]; done) | (simp_all [true_and]; done) | omega) | exact Lower.str (by first | rfl | (simp only [true_and, Bool.true_and, Bool.false_and, Bool.and_true, Bool.and_false, Bool.true_or, Bool.false_or, reduceIte, Bool.false_eq_true, *]; done) | (simp only [true_and, reduceIte, Bool.false_eq_true, *] <;> rfl) | (simp [true_and]; done) | (simp_all [true_and]; done) | omega) | refine Lower.aggF ?_ | refine All2.cons ?_ ?_ | exact All2.nil)
def spanE (l : List Sty) : Int := if l.length = 0 then 0 else (maxS l l.length).b
theorem span_ok (l : List Sty) (hl : l.length < 1000000) : Pure Tryz.prog 22 [.sl (stys l)] (.v (.int .i64 (spanE l))) := by
 unfold spanE
 by_cases h0 : l.length = 0
 ·rw [if_pos h0]
  have h0' : ((l.length : Int) == 0) = true := by rw [beq_iff_eq]; omega
  clear h0
  refine fn_pure Tryz.F22 (Nat.le_of_ble_eq_true rfl) ?_; unfold Tryz.ac22 AR AM AO
  repeat' (first
  | (apply Awp.sreg; (case hn => (simp only [List.length_cons, List.length_nil, Nat.reduceAdd] <;> rfl)))
  | (refine st_nil ?_)
  | (apply st_a; (case hc => rfl); (case he => (simp only [go_sem, *] <;> rfl)); (case hu => (simp only [updL_nil, updL_cons] <;> rfl)); (case hp => first | trivial))
  | (refine Awp.ret ?_; try simp only [go_sem, *])
  | (apply Awp.cond; (case hc => (simp only [go_sem, *] <;> rfl)); all_goals (intro hg; (try simp only [Bool.not_true, Bool.not_false, reduceCtorEq] at hg); (try have hg' := hg); (try simp only [decide_eq_true_eq, decide_eq_false_iff_not, Bool.and_eq_true, Bool.or_eq_false_iff, bne_iff_ne, bne_eq_false_iff_eq, beq_iff_eq, beq_eq_false_iff_ne, Int.not_lt, Int.not_le, Int.ofNat_lt, Int.ofNat_le, Int.natCast_inj] at hg')))
  | refine Awp.seq ?_)
  all_goals repeat' (first | exact Lower.int (by first | rfl | (simp only [true_and, Bool.true_and, Bool.false_and, Bool.and_true, Bool.and_false, Bool.true_or, Bool.false_or, reduceIte, Bool.false_eq_true, *]; done) | (simp only [true_and, reduceIte, Bool.false_eq_true, *] <;> rfl) | (simp [true_and]; done) | (simp_all [true_and]; done) | omega))
 ·rw [if_neg h0]
  have h0' : ((l.length : Int) == 0) = false := by rw [beq_eq_false_iff_ne]; omega
  have c0 := maxf_ok l (by omega) hl
  generalize maxS l l.length = M at *
  refine fn_pure Tryz.F22 (Nat.le_of_ble_eq_true rfl) ?_; unfold Tryz.ac22 AR AM AO
  repeat' (first
  | (apply Awp.sreg; (case hn => (simp only [List.length_cons, List.length_nil, Nat.reduceAdd] <;> rfl)))
  | (refine st_nil ?_)
  | (apply st_a; (case hc => rfl); (case he => (simp only [go_sem, *] <;> rfl)); (case hu => (simp only [updL_nil, updL_cons] <;> rfl)); (case hp => first | trivial))
  | (apply st_c; (case hc => (simp only [go_sem, *] <;> rfl)); (case hl => (simp only [go_sem, *] <;> rfl)); (case hn => (simp only [go_sem, *] <;> rfl)); (case hp => first | exact c0 | (have hXz := c0; simp only [go_sem, *] at hXz; exact hXz)))
  | (refine Awp.ret ?_; try simp only [go_sem, *])
  | (refine Awp.skip ?_; try simp only [go_sem, *])
  | (apply Awp.cond; (case hc => (simp only [go_sem, *] <;> rfl)); all_goals (intro hg; (try simp only [Bool.not_true, Bool.not_false, reduceCtorEq] at hg); (try have hg' := hg); (try simp only [decide_eq_true_eq, decide_eq_false_iff_not, Bool.and_eq_true, Bool.or_eq_false_iff, bne_iff_ne, bne_eq_false_iff_eq, beq_iff_eq, beq_eq_false_iff_ne, Int.not_lt, Int.not_le, Int.ofNat_lt, Int.ofNat_le, Int.natCast_inj] at hg')))
  | refine Awp.seq ?_)
  all_goals repeat' (first | exact Lower.int (by first | rfl | (simp only [true_and, Bool.true_and, Bool.false_and, Bool.and_true, Bool.and_false, Bool.true_or, Bool.false_or, reduceIte, Bool.false_eq_true, *]; done) | (simp only [true_and, reduceIte, Bool.false_eq_true, *] <;> rfl) | (simp [true_and]; done) | (simp_all [true_and]; done) | omega))
end Go.Proofs
namespace Go.Proofs
open Go Go.Ab
set_option maxHeartbeats 8000000
set_option maxRecDepth 100000
attribute [local irreducible] Awp aops aopsL Go.Ab.Pure PureOwn PureTwoM
def rsF (l : List Sty) : Nat → Int
 | 0 => 0
 | i + 1 => if (((i : Int) == 0) || decide (rsF l i < (l.getD i zeroSty).b)) = true then (l.getD i zeroSty).b else rsF l i
theorem same04_ok (a : List ByteArray) (ha : a.length < 1000000) : Pure Tryz.prog 15 [.sl (strs a), .sl (strs a)] (.v (.bool true)) := by
 have hne : ((a.length : Int) != a.length) = false := by simp
 refine fn_pure Tryz.F15 (Nat.le_of_ble_eq_true rfl) ?_; unfold Tryz.ac15 AR AM AO
 repeat' (first
  | (apply Awp.sreg; (case hn => (simp only [List.length_cons, List.length_nil, Nat.reduceAdd] <;> rfl)))
  | (refine st_nil ?_)
  | (apply st_a; (case hc => rfl); (case he => (simp only [go_sem, *] <;> rfl)); (case hu => (simp only [updL_nil, updL_cons] <;> rfl)); (case hp => first | trivial))
  | (refine Awp.skip ?_; try simp only [go_sem, *])
  | refine Awp.block ?_
  | (apply Awp.cond; (case hc => (simp only [go_sem, *] <;> rfl)); all_goals (intro hg; (try simp only [Bool.not_true, Bool.not_false, reduceCtorEq] at hg)))
  | refine Awp.seq ?_)
 refine Awp.loop (fun i : Nat => i ≤ a.length) 60 (fun i => mkS [(0, .sl (strs a)), (1, .sl (strs a)), (5, .v (.int .i64 i))] []) (fun i => a.length - i) 0 (Nat.zero_le _) ?_ ?_
 ·(apply Ghost.mk [] []; (case hdead => rfl); (case hinj => rfl); (case hV => (simp only [go_sem, *]) <;> (repeat' (first | exact View.int (by first | rfl | omega | (simp; done) | (rw [wrap_i64] <;> (try simp only [Int.natCast_add]) <;> omega) | (simp [*]; done))))); (case hB => (simp only [go_sem, *]) <;> (repeat' (first | skip; done))))
 ·intro i hi
  by_cases hlt : i < a.length
  ·have hlt' : (i : Int) < a.length := by omega
   have hat := strs_at a i hlt
   generalize a.getD i ⟨#[]⟩ = x at *
   have hx : (x.toList == x.toList) = true := by simp
   repeat' (first
  | (apply Awp.sreg; (case hn => (simp only [List.length_cons, List.length_nil, Nat.reduceAdd] <;> rfl)))
  | (apply Awp.sdraw; (case hn => (simp only [List.length_cons, List.length_nil, Nat.reduceAdd] <;> rfl)))
  | (refine st_nil ?_)
  | (apply st_a; (case hc => rfl); (case he => (simp only [go_sem, *] <;> rfl)); (case hu => (simp only [updL_nil, updL_cons] <;> rfl)); (case hp => first | trivial))
  | (apply Awp.reg; (case hn => (simp only [List.length_cons, List.length_nil, Nat.reduceAdd] <;> rfl)))
  | (refine Awp.skip ?_; try simp only [go_sem, *])
  | refine Awp.block ?_
  | (apply Awp.cond; (case hc => (simp only [go_sem, *] <;> rfl)); all_goals (intro hg; (try simp only [Bool.not_true, Bool.not_false, reduceCtorEq] at hg)))
  | refine Awp.seq ?_
  | (apply sl_a; (case hc => rfl); (case he => (simp only [go_sem, *] <;> rfl)); (case hu => (simp only [updL_nil, updL_cons] <;> rfl)); (case hl => (simp only [List.map_cons, List.map_nil] <;> rfl)); (case hp => first | trivial | omega))
  | (refine sl_nil (And.intro (by first | exact drawOk_of (by decide +kernel) | (simp only [List.map_cons, List.map_nil]; exact drawOk_of (by decide +kernel)) | decide) ?_)))
   refine ⟨i + 1, by omega, by omega, ?_⟩
   (apply Ghost.mk [] []; (case hdead => rfl); (case hinj => rfl); (case hV => (simp only [go_sem, *]) <;> (repeat' (first | exact View.int (by first | rfl | omega | (simp; done) | (rw [wrap_i64] <;> (try simp only [Int.natCast_add]) <;> omega) | (simp [*]; done))))); (case hB => (simp only [go_sem, *]) <;> (repeat' (first | skip; done))))
  ·have hlt' : ¬ (i : Int) < a.length := by omega
   repeat' (first
  | (apply Awp.sreg; (case hn => (simp only [List.length_cons, List.length_nil, Nat.reduceAdd] <;> rfl)))
  | (refine st_nil ?_)
  | (apply st_a; (case hc => rfl); (case he => (simp only [go_sem, *] <;> rfl)); (case hu => (simp only [updL_nil, updL_cons] <;> rfl)); (case hp => first | trivial))
  | (refine Awp.ret ?_; try simp only [go_sem, *])
  | (refine Awp.exit ?_; try simp only [go_sem, *])
  | (apply Awp.cond; (case hc => (simp only [go_sem, *] <;> rfl)); all_goals (intro hg; (try simp only [Bool.not_true, Bool.not_false, reduceCtorEq] at hg)))
  | refine Awp.seq ?_)
   all_goals repeat' (first | exact Lower.bool (by first | rfl | (simp only [true_and, Bool.true_and, Bool.false_and, Bool.and_true, Bool.and_false, Bool.true_or, Bool.false_or, reduceIte, Bool.false_eq_true, *]; done) | (simp only [true_and, reduceIte, Bool.false_eq_true, *] <;> rfl) | (simp [true_and]; done) | (simp_all [true_and]; done) | omega))
def bigWk (q : Wk) : Bool := decide ((100 : Int) < q.id.size) || decide ((20 : Int) < q.af.length)
def fewW (l : List Wk) (most : Int) : Bool := decide ((l.length : Int) ≤ most) && l.all fun q => !bigWk q
theorem fewW_bad {l : List Wk} {most : Int} {i : Nat} (hi : i < l.length) (h : bigWk (l.getD i zeroWk) = true) : fewW l most = false := by
 have : (l.all fun q => !bigWk q) = false := by
  rw [List.all_eq_false]
  exact ⟨_, getD_mem zeroWk hi, by simp only [h, Bool.not_true, Bool.false_eq_true, not_false_eq_true]⟩
 unfold fewW
 rw [this, Bool.and_false]
theorem fewW_end {l : List Wk} {most : Int} {i : Nat} (hm : (l.length : Int) ≤ most) (hi : l.length ≤ i) (h : ∀ j, j < i → bigWk (l.getD j zeroWk) = false) : fewW l most = true := by
 unfold fewW
 rw [decide_eq_true hm, Bool.true_and, List.all_eq_true]
 intro x hx
 obtain ⟨j, hj, rfl⟩ := List.getElem_of_mem hx
 have := h j (by omega)
 rw [List.getD_eq_getElem?_getD, List.getElem?_eq_getElem hj, Option.getD_some] at this
 rw [this]; rfl
theorem fewW_ok (l : List Wk) (most : Int) (hl : most < 1000000) : Pure Tryz.prog 9 [.sl (wks l), .v (.int .i64 most)] (.v (.bool (fewW l most))) := by
 by_cases hm : (l.length : Int) ≤ most
 ·have hm' : decide (most < (l.length : Int)) = false := decide_eq_false (by omega)
  refine fn_pure Tryz.F9 (Nat.le_of_ble_eq_true rfl) ?_; unfold Tryz.ac9 AR AM AO
  repeat' (first
  | (apply Awp.sreg; (case hn => (simp only [List.length_cons, List.length_nil, Nat.reduceAdd] <;> rfl)))
  | (refine st_nil ?_)
  | (apply st_a; (case hc => rfl); (case he => (simp only [go_sem, *] <;> rfl)); (case hu => (simp only [updL_nil, updL_cons] <;> rfl)); (case hp => first | trivial))
  | (refine Awp.skip ?_; try simp only [go_sem, *])
  | refine Awp.block ?_
  | (apply Awp.cond; (case hc => (simp only [go_sem, *] <;> rfl)); all_goals (intro hg; (try simp only [Bool.not_true, Bool.not_false, reduceCtorEq] at hg)))
  | refine Awp.seq ?_)
  refine Awp.loop (fun i : Nat => i ≤ l.length ∧ ∀ j, j < i → bigWk (l.getD j zeroWk) = false) 60 (fun i => mkS [(0, .sl (wks l)), (5, .v (.int .i64 i))] []) (fun i => l.length - i) 0 (by simp) ?_ ?_
  ·(apply Ghost.mk [] []; (case hdead => rfl); (case hinj => rfl); (case hV => (simp only [go_sem, *]) <;> (repeat' (first | exact View.int (by first | rfl | omega | (simp; done) | (rw [wrap_i64] <;> (try simp only [Int.natCast_add]) <;> omega) | (simp [*]; done))))); (case hB => (simp only [go_sem, *]) <;> (repeat' (first | skip; done))))
  ·intro i ⟨hi, hj⟩
   by_cases hlt : i < l.length
   ·have hlt' : (i : Int) < l.length := by omega
    have hat := wks_at l i hlt
    have hz : ((l.getD i zeroWk).cells).length = 5 := rfl
    cases hb : bigWk (l.getD i zeroWk)
    ·have hnx := ltSucc hj hb
     unfold bigWk at hb
     clear hj
     repeat' (first
  | (apply Awp.sreg; (case hn => (simp only [List.length_cons, List.length_nil, Nat.reduceAdd] <;> rfl)))
  | (refine st_nil ?_)
  | (apply st_a; (case hc => rfl); (case he => (simp only [go_sem, *] <;> rfl)); (case hu => (simp only [updL_nil, updL_cons] <;> rfl)); (case hp => first | trivial | omega))
  | (apply st_m; (case hc => rfl); (case hg => (simp only [go_sem, *] <;> rfl)); (case he => (intro hQz; (try simp only [wantB_t, wantB_f, Bool.and_eq_true, Bool.not_eq_true', Bool.not_true, Bool.not_false, and_true, true_and] at hQz); simp only [go_sem, *] <;> rfl)); (case hp => (intro hQz; (try simp only [wantB_t, wantB_f, Bool.and_eq_true, Bool.not_eq_true', Bool.or_eq_false_iff, decide_eq_true_eq, decide_eq_false_iff_not, beq_iff_eq, beq_eq_false_iff_ne, bne_iff_ne, bne_eq_false_iff_eq, Int.not_lt, Int.not_le, Int.ofNat_lt, Int.ofNat_le] at hQz); first | trivial | omega)))
  | (apply Awp.reg; (case hn => (simp only [List.length_cons, List.length_nil, Nat.reduceAdd] <;> rfl)))
  | (refine Awp.skip ?_; try simp only [go_sem, *])
  | refine Awp.block ?_
  | (apply Awp.cond; (case hc => (simp only [go_sem, *] <;> rfl)); all_goals (intro hg; (try simp only [Bool.not_true, Bool.not_false, reduceCtorEq] at hg)))
  | refine Awp.seq ?_)
     refine ⟨i + 1, ⟨by omega, hnx⟩, by omega, ?_⟩
     clear hnx
     (apply Ghost.mk [] []; (case hdead => rfl); (case hinj => rfl); (case hV => (simp only [go_sem, *]) <;> (repeat' (first | exact View.int (by first | rfl | omega | (simp; done) | (rw [wrap_i64] <;> (try simp only [Int.natCast_add]) <;> omega) | (simp [*]; done))))); (case hB => (simp only [go_sem, *]) <;> (repeat' (first | skip; done))))
    ·have hf := fewW_bad (most := most) hlt hb
     unfold bigWk at hb
     clear hj
     repeat' (first
  | (apply Awp.sreg; (case hn => (simp only [List.length_cons, List.length_nil, Nat.reduceAdd] <;> rfl)))
  | (refine st_nil ?_)
  | (apply st_a; (case hc => rfl); (case he => (simp only [go_sem, *] <;> rfl)); (case hu => (simp only [updL_nil, updL_cons] <;> rfl)); (case hp => first | trivial | omega))
  | (apply st_m; (case hc => rfl); (case hg => (simp only [go_sem, *] <;> rfl)); (case he => (intro hQz; (try simp only [wantB_t, wantB_f, Bool.and_eq_true, Bool.not_eq_true', Bool.not_true, Bool.not_false, and_true, true_and] at hQz); simp only [go_sem, *] <;> rfl)); (case hp => (intro hQz; (try simp only [wantB_t, wantB_f, Bool.and_eq_true, Bool.not_eq_true', Bool.or_eq_false_iff, decide_eq_true_eq, decide_eq_false_iff_not, beq_iff_eq, beq_eq_false_iff_ne, bne_iff_ne, bne_eq_false_iff_eq, Int.not_lt, Int.not_le, Int.ofNat_lt, Int.ofNat_le] at hQz); first | trivial | omega)))
  | (refine Awp.ret ?_; try simp only [go_sem, *])
  | (refine Awp.skip ?_; try simp only [go_sem, *])
  | refine Awp.block ?_
  | (apply Awp.cond; (case hc => (simp only [go_sem, *] <;> rfl)); all_goals (intro hg; (try simp only [Bool.not_true, Bool.not_false, reduceCtorEq] at hg)))
  | refine Awp.seq ?_)
     all_goals repeat' (first | exact Lower.bool (by first | rfl | (simp only [true_and, Bool.true_and, Bool.false_and, Bool.and_true, Bool.and_false, Bool.true_or, Bool.false_or, reduceIte, Bool.false_eq_true, *]; done) | (simp only [true_and, reduceIte, Bool.false_eq_true, *] <;> rfl) | (simp [true_and]; done) | (simp_all [true_and]; done) | omega))
   ·have hlt' : ¬ (i : Int) < l.length := by omega
    have hf := fewW_end hm (Nat.le_of_not_lt hlt) hj
    clear hj
    repeat' (first
  | (apply Awp.sreg; (case hn => (simp only [List.length_cons, List.length_nil, Nat.reduceAdd] <;> rfl)))
  | (refine st_nil ?_)
  | (apply st_a; (case hc => rfl); (case he => (simp only [go_sem, *] <;> rfl)); (case hu => (simp only [updL_nil, updL_cons] <;> rfl)); (case hp => first | trivial))
  | (refine Awp.ret ?_; try simp only [go_sem, *])
  | (refine Awp.exit ?_; try simp only [go_sem, *])
  | (apply Awp.cond; (case hc => (simp only [go_sem, *] <;> rfl)); all_goals (intro hg; (try simp only [Bool.not_true, Bool.not_false, reduceCtorEq] at hg)))
  | refine Awp.seq ?_)
    all_goals repeat' (first | exact Lower.bool (by first | rfl | (simp only [true_and, Bool.true_and, Bool.false_and, Bool.and_true, Bool.and_false, Bool.true_or, Bool.false_or, reduceIte, Bool.false_eq_true, *]; done) | (simp only [true_and, reduceIte, Bool.false_eq_true, *] <;> rfl) | (simp [true_and]; done) | (simp_all [true_and]; done) | omega))
 ·have hm' : decide (most < (l.length : Int)) = true := decide_eq_true (by omega)
  have hf : fewW l most = false := by unfold fewW; rw [decide_eq_false hm, Bool.false_and]
  refine fn_pure Tryz.F9 (Nat.le_of_ble_eq_true rfl) ?_; unfold Tryz.ac9 AR AM AO
  repeat' (first
  | (apply Awp.sreg; (case hn => (simp only [List.length_cons, List.length_nil, Nat.reduceAdd] <;> rfl)))
  | (refine st_nil ?_)
  | (apply st_a; (case hc => rfl); (case he => (simp only [go_sem, *] <;> rfl)); (case hu => (simp only [updL_nil, updL_cons] <;> rfl)); (case hp => first | trivial))
  | (refine Awp.ret ?_; try simp only [go_sem, *])
  | (apply Awp.cond; (case hc => (simp only [go_sem, *] <;> rfl)); all_goals (intro hg; (try simp only [Bool.not_true, Bool.not_false, reduceCtorEq] at hg); (try have hg' := hg); (try simp only [decide_eq_true_eq, decide_eq_false_iff_not, Bool.and_eq_true, Bool.or_eq_false_iff, bne_iff_ne, bne_eq_false_iff_eq, beq_iff_eq, beq_eq_false_iff_ne, Int.not_lt, Int.not_le, Int.ofNat_lt, Int.ofNat_le, Int.natCast_inj] at hg')))
  | refine Awp.seq ?_)
  all_goals repeat' (first | exact Lower.bool (by first | rfl | (simp only [true_and, Bool.true_and, Bool.false_and, Bool.and_true, Bool.and_false, Bool.true_or, Bool.false_or, reduceIte, Bool.false_eq_true, *]; done) | (simp only [true_and, reduceIte, Bool.false_eq_true, *] <;> rfl) | (simp [true_and]; done) | (simp_all [true_and]; done) | omega))
theorem same42_ok (a : List Sty) (ha : a.length < 1000000) : Pure Tryz.prog 19 [.sl (stys a), .sl (stys a)] (.v (.bool true)) := by
 have hne : ((a.length : Int) != a.length) = false := by simp
 refine fn_pure Tryz.F19 (Nat.le_of_ble_eq_true rfl) ?_; unfold Tryz.ac19 AR AM AO
 repeat' (first
  | (apply Awp.sreg; (case hn => (simp only [List.length_cons, List.length_nil, Nat.reduceAdd] <;> rfl)))
  | (refine st_nil ?_)
  | (apply st_a; (case hc => rfl); (case he => (simp only [go_sem, *] <;> rfl)); (case hu => (simp only [updL_nil, updL_cons] <;> rfl)); (case hp => first | trivial))
  | (refine Awp.skip ?_; try simp only [go_sem, *])
  | refine Awp.block ?_
  | (apply Awp.cond; (case hc => (simp only [go_sem, *] <;> rfl)); all_goals (intro hg; (try simp only [Bool.not_true, Bool.not_false, reduceCtorEq] at hg)))
  | refine Awp.seq ?_)
 refine Awp.loop (fun i : Nat => i ≤ a.length) 60 (fun i => mkS [(0, .sl (stys a)), (1, .sl (stys a)), (5, .v (.int .i64 i))] []) (fun i => a.length - i) 0 (Nat.zero_le _) ?_ ?_
 ·(apply Ghost.mk [] []; (case hdead => rfl); (case hinj => rfl); (case hV => (simp only [go_sem, *]) <;> (repeat' (first | exact View.int (by first | rfl | omega | (simp; done) | (rw [wrap_i64] <;> (try simp only [Int.natCast_add]) <;> omega) | (simp [*]; done))))); (case hB => (simp only [go_sem, *]) <;> (repeat' (first | skip; done))))
 ·intro i hi
  by_cases hlt : i < a.length
  ·have hlt' : (i : Int) < a.length := by omega
   have hat := stys_at a i hlt
   have hz : ((a.getD i zeroSty).cells).length = 8 := rfl
   generalize a.getD i zeroSty = x at *
   have hx : (x.item.toList == x.item.toList) = true := by simp
   have hx2 : (x.bay.toList == x.bay.toList) = true := by simp
   repeat' (first
  | (apply Awp.sreg; (case hn => (simp only [List.length_cons, List.length_nil, Nat.reduceAdd] <;> rfl)))
  | (apply Awp.sdraw; (case hn => (simp only [List.length_cons, List.length_nil, Nat.reduceAdd] <;> rfl)))
  | (refine st_nil ?_)
  | (apply st_a; (case hc => rfl); (case he => (simp only [go_sem, *] <;> rfl)); (case hu => (simp only [updL_nil, updL_cons] <;> rfl)); (case hp => first | trivial))
  | (apply Awp.reg; (case hn => (simp only [List.length_cons, List.length_nil, Nat.reduceAdd] <;> rfl)))
  | (refine Awp.ret ?_; try simp only [go_sem, *])
  | (refine Awp.skip ?_; try simp only [go_sem, *])
  | refine Awp.block ?_
  | (apply Awp.cond; (case hc => (simp only [go_sem, *] <;> rfl)); all_goals (intro hg; (try simp only [Bool.not_true, Bool.not_false, reduceCtorEq] at hg)))
  | refine Awp.seq ?_
  | (apply sl_a; (case hc => rfl); (case he => (simp only [go_sem, *] <;> rfl)); (case hu => (simp only [updL_nil, updL_cons] <;> rfl)); (case hl => (simp only [List.map_cons, List.map_nil] <;> rfl)); (case hp => first | trivial | omega))
  | (refine sl_nil (And.intro (by first | exact drawOk_of (by decide +kernel) | (simp only [List.map_cons, List.map_nil]; exact drawOk_of (by decide +kernel)) | decide) ?_)))
   all_goals (try (exfalso; simp at hg; done))
   refine ⟨i + 1, by omega, by omega, ?_⟩
   (apply Ghost.mk [] []; (case hdead => rfl); (case hinj => rfl); (case hV => (simp only [go_sem, *]) <;> (repeat' (first | exact View.int (by first | rfl | omega | (simp; done) | (rw [wrap_i64] <;> (try simp only [Int.natCast_add]) <;> omega) | (simp [*]; done))))); (case hB => (simp only [go_sem, *]) <;> (repeat' (first | skip; done))))
  ·have hlt' : ¬ (i : Int) < a.length := by omega
   repeat' (first
  | (apply Awp.sreg; (case hn => (simp only [List.length_cons, List.length_nil, Nat.reduceAdd] <;> rfl)))
  | (refine st_nil ?_)
  | (apply st_a; (case hc => rfl); (case he => (simp only [go_sem, *] <;> rfl)); (case hu => (simp only [updL_nil, updL_cons] <;> rfl)); (case hp => first | trivial))
  | (refine Awp.ret ?_; try simp only [go_sem, *])
  | (refine Awp.exit ?_; try simp only [go_sem, *])
  | (apply Awp.cond; (case hc => (simp only [go_sem, *] <;> rfl)); all_goals (intro hg; (try simp only [Bool.not_true, Bool.not_false, reduceCtorEq] at hg)))
  | refine Awp.seq ?_)
   all_goals repeat' (first | exact Lower.bool (by first | rfl | (simp only [true_and, Bool.true_and, Bool.false_and, Bool.and_true, Bool.and_false, Bool.true_or, Bool.false_or, reduceIte, Bool.false_eq_true, *]; done) | (simp only [true_and, reduceIte, Bool.false_eq_true, *] <;> rfl) | (simp [true_and]; done) | (simp_all [true_and]; done) | omega))
def unI (P : List Sty) (s : ByteArray) (n : Int) : Int := P.foldl (fun n y => if (y.item.toList == s.toList) = true then imax n y.b else n) n
def untilE (af : List ByteArray) (P : List Sty) : Int := af.foldl (fun n s => unI P s n) 0
theorem fold1 {α β : Type} (f : β → α → β) (b : β) (l : List α) (i : Nat) (d : α) (h : i < l.length) : (l.take (i + 1)).foldl f b = f ((l.take i).foldl f b) (l.getD i d) := by
 rw [List.take_add_one, List.getElem?_eq_getElem h, List.foldl_append]
 simp [List.getD_eq_getElem?_getD, h]
theorem until_ok (af : List ByteArray) (P : List Sty) (h1 : af.length < 1000000) (h2 : P.length < 1000000) : Pure Tryz.prog 33 [.sl (strs af), .sl (stys P)] (.v (.int .i64 (untilE af P))) := by
 refine fn_pure Tryz.F33 (Nat.le_of_ble_eq_true rfl) ?_; unfold Tryz.ac33 AR AM AO
 repeat' (first
  | (apply Awp.sreg; (case hn => (simp only [List.length_cons, List.length_nil, Nat.reduceAdd] <;> rfl)))
  | (refine st_nil ?_)
  | (apply st_a; (case hc => rfl); (case he => (simp only [go_sem, *] <;> rfl)); (case hu => (simp only [updL_nil, updL_cons] <;> rfl)); (case hp => first | trivial))
  | refine Awp.block ?_
  | refine Awp.seq ?_)
 refine Awp.loop (fun i : Nat => i ≤ af.length) 60 (fun i => mkS [(0, .sl (strs af)), (1, .sl (stys P)), (5, .v (.int .i64 ((af.take i).foldl (fun n s => unI P s n) 0))), (6, .v (.int .i64 i))] []) (fun i => af.length - i) 0 (Nat.zero_le _) ?_ ?_
 ·have e1 : (af.take 0).foldl (fun n s => unI P s n) 0 = 0 := rfl
  rw [e1]
  (apply Ghost.mk [] []; (case hdead => rfl); (case hinj => rfl); (case hV => (simp only [go_sem, *]) <;> (repeat' (first | exact View.int (by first | rfl | omega | (simp; done) | (rw [wrap_i64] <;> (try simp only [Int.natCast_add]) <;> omega) | (simp [*]; done))))); (case hB => (simp only [go_sem, *]) <;> (repeat' (first | skip; done))))
 ·intro i hi
  by_cases hlt : i < af.length
  ·have hlt' : (i : Int) < af.length := by omega
   have hat := strs_at af i hlt
   have hst := fold1 (fun n s => unI P s n) 0 af i ⟨#[]⟩ hlt
   try simp only at hst
   generalize (af.take i).foldl (fun n s => unI P s n) 0 = n0 at *
   generalize af.getD i ⟨#[]⟩ = s at *
   unfold unI at hst
   change Hid _ at hst
   repeat' (first
  | (apply Awp.sreg; (case hn => (simp only [List.length_cons, List.length_nil, Nat.reduceAdd] <;> rfl)))
  | (refine st_nil ?_)
  | (apply st_a; (case hc => rfl); (case he => (simp only [go_sem, *] <;> rfl)); (case hu => (simp only [updL_nil, updL_cons] <;> rfl)); (case hp => first | trivial))
  | (refine Awp.skip ?_; try simp only [go_sem, *])
  | refine Awp.block ?_
  | (apply Awp.cond; (case hc => (simp only [go_sem, *] <;> rfl)); all_goals (intro hg; (try simp only [Bool.not_true, Bool.not_false, reduceCtorEq] at hg)))
  | refine Awp.seq ?_)
   refine Awp.loop (fun k : Nat => k ≤ P.length) 120 (fun k => mkS [(0, .sl (strs af)), (1, .sl (stys P)), (5, .v (.int .i64 ((P.take k).foldl (fun n y => if (y.item.toList == s.toList) = true then imax n y.b else n) n0))), (6, .v (.int .i64 i)), (7, .v (.int .i64 k))] []) (fun k => P.length - k) 0 (Nat.zero_le _) ?_ ?_
   ·have e1 : (P.take 0).foldl (fun n (y : Sty) => if (y.item.toList == s.toList) = true then imax n y.b else n) n0 = n0 := rfl
    rw [e1]
    (apply Ghost.mk [] []; (case hdead => rfl); (case hinj => rfl); (case hV => (simp only [go_sem, *]) <;> (repeat' (first | exact View.int (by first | rfl | omega | (simp; done) | (rw [wrap_i64] <;> (try simp only [Int.natCast_add]) <;> omega) | (simp [*]; done))))); (case hB => (simp only [go_sem, *]) <;> (repeat' (first | skip; done))))
   ·intro k hk
    by_cases hkt : k < P.length
    ·have hkt' : (k : Int) < P.length := by omega
     have hkat := stys_at P k hkt
     have hz : ((P.getD k zeroSty).cells).length = 8 := rfl
     have hs2 := fold1 (fun n (y : Sty) => if (y.item.toList == s.toList) = true then imax n y.b else n) n0 P k zeroSty hkt
     try simp only at hs2
     clear hst
     generalize (P.take k).foldl (fun n (y : Sty) => if (y.item.toList == s.toList) = true then imax n y.b else n) n0 = m at *
     generalize P.getD k zeroSty = y at *
     unfold imax at hs2 ⊢
     cases he : (y.item.toList == s.toList)
     ·rw [he, if_neg (by decide)] at hs2
      repeat' (first
  | (apply Awp.sreg; (case hn => (simp only [List.length_cons, List.length_nil, Nat.reduceAdd] <;> rfl)))
  | (apply Awp.sdraw; (case hn => (simp only [List.length_cons, List.length_nil, Nat.reduceAdd] <;> rfl)))
  | (refine st_nil ?_)
  | (apply st_a; (case hc => rfl); (case he => (simp only [go_sem, *] <;> rfl)); (case hu => (simp only [updL_nil, updL_cons] <;> rfl)); (case hp => first | trivial))
  | (apply Awp.reg; (case hn => (simp only [List.length_cons, List.length_nil, Nat.reduceAdd] <;> rfl)))
  | (refine Awp.skip ?_; try simp only [go_sem, *])
  | refine Awp.block ?_
  | (apply Awp.cond; (case hc => (simp only [go_sem, *] <;> rfl)); all_goals (intro hg; (try simp only [Bool.not_true, Bool.not_false, reduceCtorEq] at hg)))
  | refine Awp.seq ?_
  | (apply sl_a; (case hc => rfl); (case he => (simp only [go_sem, *] <;> rfl)); (case hu => (simp only [updL_nil, updL_cons] <;> rfl)); (case hl => (simp only [List.map_cons, List.map_nil] <;> rfl)); (case hp => first | trivial | omega))
  | (refine sl_nil (And.intro (by first | exact drawOk_of (by decide +kernel) | (simp only [List.map_cons, List.map_nil]; exact drawOk_of (by decide +kernel)) | decide) ?_)))
      refine ⟨k + 1, by omega, by omega, ?_⟩
      (apply Ghost.mk [] []; (case hdead => rfl); (case hinj => rfl); (case hV => (simp only [go_sem, *]) <;> (repeat' (first | exact View.int (by first | rfl | omega | (simp; done) | (rw [wrap_i64] <;> (try simp only [Int.natCast_add]) <;> omega) | (simp [*]; done))))); (case hB => (simp only [go_sem, *]) <;> (repeat' (first | skip; done))))
     ·rw [he, if_pos rfl] at hs2
      repeat' (first
  | (apply Awp.sreg; (case hn => (simp only [List.length_cons, List.length_nil, Nat.reduceAdd] <;> rfl)))
  | (apply Awp.sdraw; (case hn => (simp only [List.length_cons, List.length_nil, Nat.reduceAdd] <;> rfl)))
  | (refine st_nil ?_)
  | (apply st_a; (case hc => rfl); (case he => (simp only [go_sem, *] <;> rfl)); (case hu => (simp only [updL_nil, updL_cons] <;> rfl)); (case hp => first | trivial | omega))
  | (apply Awp.reg; (case hn => (simp only [List.length_cons, List.length_nil, Nat.reduceAdd] <;> rfl)))
  | (refine Awp.skip ?_; try simp only [go_sem, *])
  | refine Awp.block ?_
  | (apply Awp.cond; (case hc => (simp only [go_sem, *] <;> rfl)); all_goals (intro hg; (try simp only [Bool.not_true, Bool.not_false, reduceCtorEq] at hg)))
  | refine Awp.seq ?_
  | (apply sl_a; (case hc => rfl); (case he => (simp only [go_sem, *] <;> rfl)); (case hu => (simp only [updL_nil, updL_cons] <;> rfl)); (case hl => (simp only [List.map_cons, List.map_nil] <;> rfl)); (case hp => first | trivial | omega))
  | (refine sl_nil (And.intro (by first | exact drawOk_of (by decide +kernel) | (simp only [List.map_cons, List.map_nil]; exact drawOk_of (by decide +kernel)) | decide) ?_)))
      refine ⟨k + 1, by omega, by omega, ?_⟩
      (apply Ghost.mk [] []; (case hdead => rfl); (case hinj => rfl); (case hV => (simp only [go_sem, *]) <;> (repeat' (first | exact View.int (by first | rfl | omega | (simp; done) | (rw [wrap_i64] <;> (try simp only [Int.natCast_add]) <;> omega) | (simp [*]; done))))); (case hB => (simp only [go_sem, *]) <;> (repeat' (first | skip; done))))
    ·have hkt' : ¬ (k : Int) < P.length := by omega
     have e1 : P.take k = P := List.take_of_length_le (by omega)
     rw [e1]
     have hst2 := hst
     unfold Hid at hst2
     rw [← hst2]
     clear hst hst2 e1
     repeat' (first
  | (apply Awp.sreg; (case hn => (simp only [List.length_cons, List.length_nil, Nat.reduceAdd] <;> rfl)))
  | (refine st_nil ?_)
  | (apply st_a; (case hc => rfl); (case he => (simp only [go_sem, *] <;> rfl)); (case hu => (simp only [updL_nil, updL_cons] <;> rfl)); (case hp => first | trivial))
  | (apply Awp.reg; (case hn => (simp only [List.length_cons, List.length_nil, Nat.reduceAdd] <;> rfl)))
  | (refine Awp.exit ?_; try simp only [go_sem, *])
  | (apply Awp.cond; (case hc => (simp only [go_sem, *] <;> rfl)); all_goals (intro hg; (try simp only [Bool.not_true, Bool.not_false, reduceCtorEq] at hg)))
  | refine Awp.seq ?_)
     refine ⟨i + 1, by omega, by omega, ?_⟩
     (apply Ghost.mk [] []; (case hdead => rfl); (case hinj => rfl); (case hV => (simp only [go_sem, *]) <;> (repeat' (first | refine And.intro ?_ ?_ | exact View.int (by first | rfl | omega | (simp; done) | (rw [wrap_i64] <;> (try simp only [Int.natCast_add]) <;> omega) | (simp [*]; done))))); (case hB => (simp only [go_sem, *]) <;> (repeat' (first | skip; done))))
  ·have hlt' : ¬ (i : Int) < af.length := by omega
   have e1 : af.take i = af := List.take_of_length_le (by omega)
   have hf : untilE af P = af.foldl (fun n s => unI P s n) 0 := rfl
   rw [e1, hf]
   clear e1 hf
   repeat' (first
  | (apply Awp.sreg; (case hn => (simp only [List.length_cons, List.length_nil, Nat.reduceAdd] <;> rfl)))
  | (refine st_nil ?_)
  | (apply st_a; (case hc => rfl); (case he => (simp only [go_sem, *] <;> rfl)); (case hu => (simp only [updL_nil, updL_cons] <;> rfl)); (case hp => first | trivial))
  | (refine Awp.ret ?_; try simp only [go_sem, *])
  | (refine Awp.exit ?_; try simp only [go_sem, *])
  | (apply Awp.cond; (case hc => (simp only [go_sem, *] <;> rfl)); all_goals (intro hg; (try simp only [Bool.not_true, Bool.not_false, reduceCtorEq] at hg)))
  | refine Awp.seq ?_)
   all_goals repeat' (first | exact Lower.int (by first | rfl | (simp only [true_and, Bool.true_and, Bool.false_and, Bool.and_true, Bool.and_false, Bool.true_or, Bool.false_or, reduceIte, Bool.false_eq_true, *]; done) | (simp only [true_and, reduceIte, Bool.false_eq_true, *] <;> rfl) | (simp [true_and]; done) | (simp_all [true_and]; done) | omega))
end Go.Proofs
namespace Go.Proofs
open Go Go.Ab
set_option maxHeartbeats 1000000
theorem hasD_eq (D : List ByteArray) (s : ByteArray) : hasD D s = hasK D s := by
 unfold hasD hasK
 congr 1
 funext x
 rw [Bool.eq_iff_iff, beq_iff_eq, beq_iff_eq]
 exact eq_comm
theorem hasK_iff {K : List ByteArray} {s : ByteArray} : hasK K s = true ↔ s ∈ K := by
 unfold hasK
 rw [List.any_eq_true]
 constructor
 ·rintro ⟨x, hx, e⟩
  rw [str_eq (beq_iff_eq.1 e)]; exact hx
 ·intro h; exact ⟨s, h, by simp⟩
theorem hasD_iff {K : List ByteArray} {s : ByteArray} : hasD K s = true ↔ s ∈ K := by rw [hasD_eq]; exact hasK_iff
theorem mapIx_at {K : List ByteArray} {s : ByteArray} {i : Nat} (h : mapIx K s = some i) : i < K.length ∧ K[i]? = some s := by
 have hl := mapIx_lt h
 have := List.findIdx?_eq_some_iff_getElem.1 h
 obtain ⟨h1, h2, _⟩ := this
 exact ⟨hl, by rw [List.getElem?_eq_getElem hl, str_eq (beq_iff_eq.1 h2)]⟩
theorem delW_nodup {W : List Wk} (s : ByteArray) (h : (ids W).Nodup) : (ids (delW W s)).Nodup := by
 rw [← delW_ids]
 cases mapIx (ids W) s with
 | none => exact h
 | some i => exact List.Sublist.nodup (List.eraseIdx_sublist _ _) h
theorem delW_mem {W : List Wk} {s t : ByteArray} (h : (ids W).Nodup) : t ∈ ids (delW W s) ↔ t ∈ ids W ∧ t ≠ s := by
 rw [← delW_ids]
 cases hm : mapIx (ids W) s with
 | none =>
  have hn := mapIx_none.1 hm
  constructor
  ·intro ht
   refine ⟨ht, fun e => ?_⟩
   have ht : t ∈ ids W := ht
   rw [e] at ht
   rw [hasK_iff.2 ht] at hn
   cases hn
  ·exact fun h => h.1
 | some i =>
  obtain ⟨hi, he⟩ := mapIx_at hm
  show t ∈ (ids W).eraseIdx i ↔ _
  rw [List.mem_eraseIdx_iff_getElem?]
  constructor
  ·rintro ⟨j, hj, hjt⟩
   have hjl : j < (ids W).length := by
    rcases Nat.lt_or_ge j (ids W).length with h | h
    ·exact h
    ·rw [List.getElem?_eq_none h] at hjt; cases hjt
   refine ⟨List.mem_of_getElem? hjt, fun e => ?_⟩
   subst e
   exact hj ((List.getElem?_inj hjl h).1 (hjt.trans he.symm))
  ·rintro ⟨ht, hne⟩
   obtain ⟨j, hj, hjt⟩ := List.getElem_of_mem ht
   refine ⟨j, fun e => ?_, by rw [List.getElem?_eq_getElem hj, hjt]⟩
   subst e
   rw [List.getElem?_eq_getElem hj, hjt] at he
   exact hne (Option.some.inj he)
def freeB (D : List ByteArray) (q : Wk) : Bool := !hasD D q.id && readyR q.af D
theorem next_spec (l : List Wk) (T : List Bool) (D : List ByteArray) (hT : ∀ i, i < l.length → T.getD i false = hasD D (l.getD i zeroWk).id) : ∀ n, n ≤ l.length →
  (nextF l T D n < 0 ∧ ∀ i, i < n → freeB D (l.getD i zeroWk) = false) ∨
  (∃ j, nextF l T D n = (j : Nat) ∧ j < n ∧ freeB D (l.getD j zeroWk) = true ∧ ∀ i, i < n → freeB D (l.getD i zeroWk) = true → strLess (l.getD i zeroWk).id (l.getD j zeroWk).id = false)
 | 0, _ => .inl ⟨by unfold nextF; omega, fun i hi => by omega⟩
 | n + 1, hn => by
  have ih := next_spec l T D hT n (by omega)
  have hf : (!(T.getD n false) && readyR (l.getD n zeroWk).af D) = freeB D (l.getD n zeroWk) := by rw [hT n (by omega)]; rfl
  have hstep : nextF l T D (n + 1) = if takB l T D (nextF l T D n) n then (n : Int) else nextF l T D n := rfl
  have ht : takB l T D (nextF l T D n) n = (freeB D (l.getD n zeroWk) && (decide (nextF l T D n < 0) || strLess (l.getD n zeroWk).id (l.getD (nextF l T D n).toNat zeroWk).id)) := by
   unfold takB; rw [hf]
  rw [hstep, ht]
  cases hF : freeB D (l.getD n zeroWk)
  ·rw [Bool.false_and, if_neg (by decide)]
   rcases ih with ⟨h1, h2⟩ | ⟨j, h1, h2, h3, h4⟩
   ·refine .inl ⟨h1, fun i hi => ?_⟩
    rcases Nat.lt_succ_iff_lt_or_eq.1 hi with h | h
    ·exact h2 i h
    ·rw [h]; exact hF
   ·refine .inr ⟨j, h1, by omega, h3, fun i hi hi2 => ?_⟩
    rcases Nat.lt_succ_iff_lt_or_eq.1 hi with h | h
    ·exact h4 i h hi2
    ·rw [h, hF] at hi2; cases hi2
  ·rw [Bool.true_and]
   rcases ih with ⟨h1, h2⟩ | ⟨j, h1, h2, h3, h4⟩
   ·rw [decide_eq_true h1, Bool.true_or, if_pos rfl]
    refine .inr ⟨n, rfl, by omega, hF, fun i hi hi2 => ?_⟩
    rcases Nat.lt_succ_iff_lt_or_eq.1 hi with h | h
    ·rw [h2 i h] at hi2; cases hi2
    ·rw [h]; exact strLess_irrefl _
   ·rw [h1, decide_eq_false (by omega), Bool.false_or, Int.toNat_natCast]
    cases hs : strLess (l.getD n zeroWk).id (l.getD j zeroWk).id
    ·rw [if_neg (by decide)]
     refine .inr ⟨j, rfl, by omega, h3, fun i hi hi2 => ?_⟩
     rcases Nat.lt_succ_iff_lt_or_eq.1 hi with h | h
     ·exact h4 i h hi2
     ·rw [h]; exact hs
    ·rw [if_pos rfl]
     refine .inr ⟨n, rfl, by omega, hF, fun i hi hi2 => ?_⟩
     rcases Nat.lt_succ_iff_lt_or_eq.1 hi with h | h
     ·exact strLess_ntrans (h4 i h hi2) (strLess_asymm hs)
     ·rw [h]; exact strLess_irrefl _
theorem idx_spec (p : Wk → Bool) (S : List Wk) (hS : S.Pairwise (fun x y => strLess y.id x.id = false)) :
  (idxF p S < 0 ∧ ∀ q ∈ S, p q = false) ∨ (∃ i : Nat, idxF p S = i ∧ i < S.length ∧ p (S.getD i zeroWk) = true ∧ ∀ q ∈ S, p q = true → strLess q.id (S.getD i zeroWk).id = false) := by
 unfold idxF
 split
 ·rename_i h
  have hp := List.findIdx_getElem (p := p) (w := h)
  refine .inr ⟨_, rfl, h, by simpa [List.getD_eq_getElem?_getD, h] using hp, fun q hq hpq => ?_⟩
  obtain ⟨k, hk, rfl⟩ := List.getElem_of_mem hq
  have hge : ¬ k < S.findIdx p := fun hlt => by
   have := List.not_of_lt_findIdx hlt
   rw [hpq] at this; cases this
  rw [List.getD_eq_getElem?_getD, List.getElem?_eq_getElem h, Option.getD_some]
  rcases Nat.lt_or_ge (S.findIdx p) k with h1 | h1
  ·exact List.pairwise_iff_getElem.1 hS _ _ h hk h1
  ·have : k = S.findIdx p := by omega
   subst this
   exact strLess_irrefl _
 ·rename_i h
  refine .inl ⟨by omega, fun q hq => ?_⟩
  have := List.findIdx_eq_length.1 (Nat.le_antisymm List.findIdx_le_length (Nat.le_of_not_lt h)) q hq
  simpa using this
structure OInv (l W out : List Wk) (T : List Bool) : Prop where
 nd : (ids W).Nodup
 w : ∀ t, t ∈ ids W ↔ t ∈ ids l ∧ t ∉ ids out
 t : ∀ i, i < l.length → T.getD i false = hasD (ids out) (l.getD i zeroWk).id
 tl : T.length = l.length
theorem ready_free {l W out : List Wk} {T : List Bool} (h : OInv l W out T) (hw : ∀ q ∈ l, wantB l q = true) {q : Wk} (hq : q ∈ l) : readyB W q = freeB (ids out) q := by
 have hm : q.id ∈ ids l := List.mem_map.2 ⟨q, hq, rfl⟩
 have hwq := hw q hq
 unfold wantB at hwq
 rw [List.all_eq_true] at hwq
 rw [Bool.eq_iff_iff]
 unfold readyB freeB readyR
 rw [Bool.and_eq_true, Bool.and_eq_true, hasK_iff, Bool.not_eq_true', Bool.not_eq_true', h.w, List.any_eq_false, List.all_eq_true]
 constructor
 ·rintro ⟨⟨_, h1⟩, h2⟩
  refine ⟨by rw [Bool.eq_false_iff]; exact fun e => h1 (hasD_iff.1 e), fun x hx => ?_⟩
  rw [hasD_iff]
  have := h2 x hx
  rw [hasK_iff, h.w] at this
  exact Classical.byContradiction fun hn => this ⟨hasK_iff.1 (hwq x hx), hn⟩
 ·rintro ⟨h1, h2⟩
  refine ⟨⟨hm, fun e => by rw [hasD_iff.2 e] at h1; cases h1⟩, fun x hx => ?_⟩
  rw [hasK_iff, h.w]
  exact fun e => e.2 (hasD_iff.1 (h2 x hx))
theorem ids_inj {l : List Wk} (h : (ids l).Nodup) {i j : Nat} (hi : i < l.length) (hj : j < l.length) (e : (l.getD i zeroWk).id = (l.getD j zeroWk).id) : i = j := by
 have hil : i < (ids l).length := by rw [ids_len]; exact hi
 refine (List.getElem?_inj hil h).1 ?_
 unfold ids
 rw [List.getElem?_map, List.getElem?_map, List.getElem?_eq_getElem hi, List.getElem?_eq_getElem hj]
 simp only [List.getD_eq_getElem?_getD, List.getElem?_eq_getElem hi, List.getElem?_eq_getElem hj, Option.getD_some] at e
 simp [e]
theorem orders_eq {l : List Wk} (hnd : (ids l).Nodup) (hw : ∀ q ∈ l, wantB l q = true) : ∀ (n : Nat) (W out : List Wk) (T : List Bool), OInv l W out T →
  rordG l n T (ids out) = (ids (ordG (sortW l) n W out).1, (ordG (sortW l) n W out).2)
 | 0, _, _, _, _ => rfl
 | n + 1, W, out, T, h => by
  have hsm : ∀ q, q ∈ sortW l ↔ q ∈ l := fun q => (sortW_perm l).mem_iff
  have hA := next_spec l T (ids out) h.t l.length (Nat.le_refl _)
  have hB := idx_spec (readyB W) (sortW l) (sortW_asc l)
  unfold rordG ordG
  rcases hA with ⟨a1, a2⟩ | ⟨j, a1, a2, a3, a4⟩
  ·rcases hB with ⟨b1, b2⟩ | ⟨i, b1, b2, b3, b4⟩
   ·rw [if_pos a1, if_pos b1]; rfl
   ·exfalso
    have hq : (sortW l).getD i zeroWk ∈ l := (hsm _).1 (getD_mem _ b2)
    rw [ready_free h hw hq] at b3
    obtain ⟨k, hk, hke⟩ := List.getElem_of_mem hq
    have := a2 k hk
    rw [List.getD_eq_getElem?_getD, List.getElem?_eq_getElem hk, Option.getD_some, hke, b3] at this
    cases this
  ·rcases hB with ⟨b1, b2⟩ | ⟨i, b1, b2, b3, b4⟩
   ·exfalso
    have hq : l.getD j zeroWk ∈ l := getD_mem _ a2
    have := b2 _ ((hsm _).2 hq)
    rw [ready_free h hw hq, a3] at this
    cases this
   ·rw [a1, b1, if_neg (by omega), if_neg (by omega), Int.toNat_natCast, Int.toNat_natCast]
    have hq : (sortW l).getD i zeroWk ∈ l := (hsm _).1 (getD_mem _ b2)
    have hqj : l.getD j zeroWk ∈ l := getD_mem _ a2
    obtain ⟨k, hk, hke⟩ := List.getElem_of_mem hq
    have hkD : l.getD k zeroWk = (sortW l).getD i zeroWk := by rw [← hke]; simp [List.getD_eq_getElem?_getD, hk]
    have e1 := a4 k hk (by rw [hkD, ← ready_free h hw hq]; exact b3)
    rw [hkD] at e1
    have e2 := b4 _ ((hsm _).2 hqj) (by rw [ready_free h hw hqj]; exact a3)
    have hid : (l.getD j zeroWk).id = ((sortW l).getD i zeroWk).id := str_eq (strLess_tri _ _ e2 e1)
    have hnew : ids out ++ [(l.getD j zeroWk).id] = ids (out ++ [(sortW l).getD i zeroWk]) := by rw [hid]; simp [ids]
    rw [hnew]
    refine orders_eq hnd hw n _ _ _ ⟨delW_nodup _ h.nd, fun t => ?_, fun m hm => ?_, by rw [List.length_set]; exact h.tl⟩
    ·rw [delW_mem h.nd, h.w, ← hnew, hid]
     simp only [List.mem_append, List.mem_singleton, not_or]
     constructor
     ·rintro ⟨⟨x, y⟩, z⟩; exact ⟨x, y, z⟩
     ·rintro ⟨x, y, z⟩; exact ⟨⟨x, y⟩, z⟩
    ·rw [← hnew]
     have hjT : j < T.length := by rw [h.tl]; exact a2
     rw [Bool.eq_iff_iff, hasD_iff]
     simp only [List.mem_append, List.mem_singleton]
     rw [List.getD_eq_getElem?_getD, List.getElem?_set]
     by_cases hmj : j = m
     ·subst hmj
      rw [if_pos rfl, if_pos hjT]
      simp
     ·rw [if_neg hmj, ← List.getD_eq_getElem?_getD, h.t m hm, hasD_iff]
      constructor
      ·exact .inl
      ·rintro (x | x)
       ·exact x
       ·exact absurd (ids_inj hnd hm a2 x).symm hmj
theorem order_same (l : List Wk) : rordE l = (ids (ordE l).1, (ordE l).2) := by
 unfold rordE ordE
 split
 ·rfl
 ·rename_i h
  have h : jobsE l = 0 := by simpa using h
  have hnd : (ids l).Nodup := ids_nodup h
  refine orders_eq hnd (jobsE_inv h).2.2 l.length l [] _ ⟨hnd, fun t => by simp [ids], fun i hi => ?_, by simp⟩
  simp [ids, hasD, hi, List.getD_eq_getElem?_getD]
end Go.Proofs
namespace Go.Proofs
open Go Go.Ab
set_option maxHeartbeats 8000000
set_option maxRecDepth 100000
attribute [local irreducible] Awp aops aopsL Go.Ab.Pure PureOwn PureTwoM
abbrev Ed := Nat × Nat
def nts (D : List Nat) : List (List AV) := D.map fun x => [.v (.int .i64 (x : Nat))]
@[go_sem] theorem nts_nil : nts [] = [] := rfl
def wtF (n : Nat) (T : List Bool) (E : List Ed) : List Bool := E.foldl (fun w e => if T.getD e.1 false then w else w.set e.2 true) (List.replicate n false)
def availB (n : Nat) (T : List Bool) (E : List Ed) (v : Nat) : Bool := !(T.getD v false) && !((wtF n T E).getD v false)
def dnQ (p : Nat → Bool) (n m : Nat) : Int := match (List.range' m (n - m)).find? p with
 | some v => (v : Int)
 | none => -1
def dordG (n : Nat) (E : List Ed) : Nat → List Bool → List Nat → List Nat × Int
 | 0, _, D => (D, 0)
 | k + 1, T, D => if dnQ (availB n T E) n 0 < 0 then ([], 20) else dordG n E k (T.set (dnQ (availB n T E) n 0).toNat true) (D ++ [(dnQ (availB n T E) n 0).toNat])
end Go.Proofs
namespace Go.Proofs
open Go Go.Ab
set_option maxHeartbeats 1000000
theorem getD_set_self {α : Type} {l : List α} {i : Nat} {x d : α} (h : i < l.length) : (l.set i x).getD i d = x := by
 simp [List.getD_eq_getElem?_getD, h]
theorem getD_set_ne {α : Type} {l : List α} {i j : Nat} {x d : α} (h : i ≠ j) : (l.set i x).getD j d = l.getD j d := by
 simp [List.getD_eq_getElem?_getD, List.getElem?_set, h]
theorem nodup_sub_len {α : Type} [DecidableEq α] : ∀ {A B : List α}, A.Nodup → (∀ x ∈ A, x ∈ B) → A.length ≤ B.length
 | [], _, _, _ => Nat.zero_le _
 | a :: A, B, hd, hs => by
  obtain ⟨h1, h2⟩ := List.nodup_cons.1 hd
  have hm := hs a List.mem_cons_self
  have := nodup_sub_len (A := A) (B := B.erase a) h2 fun x hx => by
   have hne : x ≠ a := fun e => h1 (by rw [← e]; exact hx)
   rw [List.mem_erase_of_ne hne]
   exact hs x (List.mem_cons_of_mem _ hx)
  rw [List.length_erase_of_mem hm] at this
  have := List.length_pos_of_mem hm
  rw [List.length_cons]; omega
theorem fold_le {α : Type} (f : α → Int) : ∀ (L : List α) (b c : Int), L.foldl (fun n x => imax n (f x)) b ≤ c ↔ b ≤ c ∧ ∀ x ∈ L, f x ≤ c
 | [], b, c => by simp
 | x :: L, b, c => by
  rw [List.foldl_cons, fold_le f L]
  have : imax b (f x) ≤ c ↔ b ≤ c ∧ f x ≤ c := by unfold imax; split <;> omega
  rw [this]
  simp only [List.mem_cons, forall_eq_or_imp]
  exact and_assoc
theorem le_ext {a b : Int} (h : ∀ c, a ≤ c ↔ b ≤ c) : a = b := Int.le_antisymm ((h b).2 (Int.le_refl _)) ((h a).1 (Int.le_refl _))
end Go.Proofs
namespace Go.Proofs
open Go Go.Ab
set_option maxHeartbeats 8000000
set_option maxRecDepth 100000
attribute [local irreducible] Awp aops aopsL Go.Ab.Pure PureOwn PureTwoM
end Go.Proofs
namespace Go.Proofs
open Go Go.Ab
set_option maxHeartbeats 1000000
structure OrdOk (l S : List Wk) : Prop where
 nd : (ids S).Nodup
 mem : ∀ q ∈ S, q ∈ l
 all : ∀ t ∈ ids l, t ∈ ids S
 bef : ∀ k, k < S.length → ∀ s ∈ (S.getD k zeroWk).af, s ∈ ids (S.take k)
theorem take_app {α : Type} (a b : List α) (k : Nat) (h : k ≤ a.length) : (a ++ b).take k = a.take k := List.take_append_of_le_length h
theorem getD_app {α : Type} {a b : List α} {k : Nat} {d : α} (h : k < a.length) : (a ++ b).getD k d = a.getD k d := by
 simp [List.getD_eq_getElem?_getD, List.getElem?_append, h]
theorem ordG_ok {l : List Wk} (hw : ∀ q ∈ l, wantB l q = true) : ∀ (n : Nat) (W out : List Wk), (ids W).Nodup → (∀ t, t ∈ ids W ↔ t ∈ ids l ∧ t ∉ ids out) → (ids out).Nodup → (∀ q ∈ out, q ∈ l) →
  (∀ k, k < out.length → ∀ s ∈ (out.getD k zeroWk).af, s ∈ ids (out.take k)) → W.length = n → (ordG (sortW l) n W out).2 = 0 → OrdOk l (ordG (sortW l) n W out).1
 | 0, W, out, hW, hm, ho, hq, hb, hn, _ => by
  refine ⟨ho, hq, fun t ht => Classical.byContradiction fun hx => ?_, hb⟩
  have := (hm t).2 ⟨ht, hx⟩
  rw [List.length_eq_zero_iff.1 hn] at this
  cases this
 | n + 1, W, out, hW, hm, ho, hq, hb, hn, he => by
  have hstep : ordG (sortW l) (n + 1) W out = if idxF (readyB W) (sortW l) < 0 then ([], 20) else ordG (sortW l) n (delW W ((sortW l).getD (idxF (readyB W) (sortW l)).toNat zeroWk).id) (out ++ [(sortW l).getD (idxF (readyB W) (sortW l)).toNat zeroWk]) := rfl
  rw [hstep] at he ⊢
  rcases idxF_cases (readyB W) (sortW l) zeroWk with ⟨hi, _⟩ | ⟨i, hi, hlt, hrb⟩
  ·rw [if_pos hi] at he; cases he
  ·rw [hi, if_neg (by omega), Int.toNat_natCast] at he ⊢
   have hql : (sortW l).getD i zeroWk ∈ l := (sortW_perm l).mem_iff.1 (getD_mem _ hlt)
   generalize (sortW l).getD i zeroWk = q at *
   unfold readyB at hrb
   rw [Bool.and_eq_true, Bool.not_eq_true', List.any_eq_false] at hrb
   obtain ⟨hr1, hr2⟩ := hrb
   have hqW := hasK_iff.1 hr1
   have hqo : q.id ∉ ids out := ((hm _).1 hqW).2
   have hids : ids (out ++ [q]) = ids out ++ [q.id] := by simp [ids]
   refine ordG_ok hw n _ _ (delW_nodup _ hW) (fun t => ?_) ?_ ?_ ?_ (by have := delW_len hr1; omega) he
   ·rw [delW_mem hW, hm, hids, List.mem_append, List.mem_singleton, not_or]
    exact and_assoc
   ·rw [hids, List.nodup_append]
    refine ⟨ho, by simp, fun a ha b hb2 e => ?_⟩
    rw [List.mem_singleton] at hb2
    rw [e, hb2] at ha; exact hqo ha
   ·intro x hx
    rcases List.mem_append.1 hx with hx | hx
    ·exact hq x hx
    ·rw [List.mem_singleton] at hx; rw [hx]; exact hql
   ·intro k hk s hs
    rw [List.length_append, List.length_singleton] at hk
    by_cases hkl : k < out.length
    ·rw [getD_app hkl] at hs
     rw [take_app _ _ _ (by omega)]
     exact hb k hkl s hs
    ·have hk2 : k = out.length := by omega
     subst hk2
     have e1 : (out ++ [q]).getD out.length zeroWk = q := by simp [List.getD_eq_getElem?_getD]
     rw [e1] at hs
     rw [take_app _ _ _ (Nat.le_refl _), List.take_length]
     have h1 : s ∈ ids l := hasK_iff.1 (List.all_eq_true.1 (hw q hql) s hs)
     refine Classical.byContradiction fun hx => hr2 s hs (hasK_iff.2 ((hm s).2 ⟨h1, hx⟩))
theorem ordE_jobs {l : List Wk} (h : (ordE l).2 = 0) : jobsE l = 0 := by
 unfold ordE at h
 split at h
 ·rename_i h1; exact absurd h h1
 ·rename_i h1; simpa using h1
theorem ordE_ok {l : List Wk} (h : (ordE l).2 = 0) : OrdOk l (ordE l).1 := by
 have hj := ordE_jobs h
 unfold ordE at h ⊢
 rw [if_neg (by simp [hj])] at h ⊢
 exact ordG_ok (jobsE_inv hj).2.2 l.length l [] (ids_nodup hj) (fun t => by simp [ids]) (by simp [ids]) (by simp) (by simp) rfl h
theorem OrdOk.len {l S : List Wk} (h : OrdOk l S) (hl : (ids l).Nodup) : S.length = l.length := by
 have h1 : (ids S).length ≤ (ids l).length := nodup_sub_len h.nd fun t ht => by
  obtain ⟨q, hq, rfl⟩ := List.mem_map.1 ht
  exact List.mem_map.2 ⟨q, h.mem q hq, rfl⟩
 have h2 : (ids l).length ≤ (ids S).length := nodup_sub_len hl h.all
 rw [ids_len, ids_len] at h1 h2
 omega
theorem mapIx_app (K : List ByteArray) (s t : ByteArray) : mapIx (K ++ [s]) t = match mapIx K t with
 | some i => some i
 | none => if t = s then some K.length else none := by
 have e : mapIx (K ++ [s]) t = (mapIx K t).or (Option.map (fun i => i + K.length) (List.findIdx? (fun x => t.toList == x.toList) [s])) := by
  unfold mapIx; rw [List.findIdx?_append]
 rw [e]
 cases mapIx K t with
 | some i => rfl
 | none =>
  by_cases h : t = s
  ·subst h; simp
  ·have h2 : (t.toList == s.toList) = false := by rw [beq_eq_false_iff_ne]; exact fun e => h (str_eq e)
   simp [h, h2, List.findIdx?_cons]
theorem pK_in {K : List ByteArray} {s : ByteArray} {i : Nat} (h : mapIx K s = some i) : pK K s = K := by
 obtain ⟨h1, h2⟩ := mapIx_at h
 unfold pK
 rw [h]
 show K.set i s = K
 rw [List.getElem?_eq_getElem h1, Option.some.injEq] at h2
 rw [← h2, List.set_getElem_self]
theorem pK_out {K : List ByteArray} {s : ByteArray} (h : mapIx K s = none) : pK K s = K ++ [s] := by unfold pK; rw [h]; rfl
theorem getM_self {K : List ByteArray} {V : List Int} (hl : V.length = K.length) (s : ByteArray) (n : Int) : getM (pK K s) (pV K V s n) s = n := by
 cases h : mapIx K s with
 | some i =>
  obtain ⟨h1, h2⟩ := mapIx_at h
  rw [pK_in h]
  unfold getM pV
  rw [h]
  simp only
  exact getD_set_self (by omega)
 | none =>
  rw [pK_out h]
  unfold getM pV
  rw [mapIx_app, h]
  simp only [if_true]
  simp [List.getD_eq_getElem?_getD, ← hl]
theorem getM_ne {K : List ByteArray} {V : List Int} (hl : V.length = K.length) {s t : ByteArray} (hne : t ≠ s) (n : Int) : getM (pK K s) (pV K V s n) t = getM K V t := by
 cases h : mapIx K s with
 | some i =>
  obtain ⟨h1, h2⟩ := mapIx_at h
  rw [pK_in h]
  unfold getM pV
  rw [h]
  cases h3 : mapIx K t with
  | none => rfl
  | some j =>
   simp only
   refine getD_set_ne fun e => hne ?_
   obtain ⟨_, h4⟩ := mapIx_at h3
   rw [← e, h2] at h4
   exact (Option.some.inj h4).symm
 | none =>
  rw [pK_out h]
  unfold getM pV
  rw [mapIx_app, h]
  cases h3 : mapIx K t with
  | none => simp only [if_neg hne]
  | some j =>
   simp only
   exact getD_app (by have := (mapIx_at h3).1; omega)
def frF (f : ByteArray → Int) (af : List ByteArray) : Int := af.foldl (fun n s => imax n (f s)) 0
theorem frF_le (f : ByteArray → Int) (af : List ByteArray) (c : Int) : frF f af ≤ c ↔ 0 ≤ c ∧ ∀ s ∈ af, f s ≤ c := fold_le f af 0 c
theorem frF_nonneg (f : ByteArray → Int) (af : List ByteArray) : 0 ≤ frF f af := ((frF_le f af _).1 (Int.le_refl _)).1
theorem ids_at {S : List Wk} {k : Nat} (h : k < S.length) : (S.getD k zeroWk).id ∈ ids S := List.mem_map.2 ⟨_, getD_mem _ h, rfl⟩
theorem ids_taken {S : List Wk} {k : Nat} {t : ByteArray} : t ∈ ids (S.take k) ↔ ∃ j, j < k ∧ j < S.length ∧ (S.getD j zeroWk).id = t := by
 unfold ids
 rw [List.mem_map]
 constructor
 ·rintro ⟨q, hq, rfl⟩
  obtain ⟨j, hj, rfl⟩ := List.getElem_of_mem hq
  rw [List.length_take] at hj
  refine ⟨j, by omega, by omega, ?_⟩
  rw [List.getElem_take, List.getD_eq_getElem?_getD, List.getElem?_eq_getElem (by omega), Option.getD_some]
 ·rintro ⟨j, h1, h2, rfl⟩
  refine ⟨_, ?_, rfl⟩
  rw [List.mem_take_iff_getElem]
  exact ⟨j, by omega, by simp [List.getD_eq_getElem?_getD, h2]⟩
theorem findW_in {l : List Wk} {s : ByteArray} (h : s ∈ ids l) : ∃ i, findW l s = (i : Nat) ∧ i < l.length ∧ (l.getD i zeroWk).id = s := by
 rcases idxF_cases (isN s) l zeroWk with ⟨h1, _⟩ | ⟨i, h1, h2, h3⟩
 ·have h1 : findW l s < 0 := h1
  rw [findW_lt, hasK_iff.2 h] at h1; cases h1
 ·unfold isN at h3
  exact ⟨i, h1, h2, str_eq (beq_iff_eq.1 h3)⟩
theorem findW_at {l : List Wk} (hn : (ids l).Nodup) {i : Nat} (hi : i < l.length) : findW l (l.getD i zeroWk).id = i := by
 obtain ⟨j, h1, h2, h3⟩ := findW_in (ids_at hi)
 rw [h1, ids_inj hn h2 hi h3]
def nmF (l : List Wk) (q : Wk) : Nat := (findW l q.id).toNat
theorem nm_at {l S : List Wk} (h : OrdOk l S) {q : Wk} (hq : q ∈ S) (hn : (ids l).Nodup) : nmF l q < l.length ∧ l.getD (nmF l q) zeroWk = q ∧ findW l q.id = nmF l q := by
 obtain ⟨i, hi, hie⟩ := List.getElem_of_mem (h.mem q hq)
 have e1 : l.getD i zeroWk = q := by simp [List.getD_eq_getElem?_getD, hi, hie]
 have e2 := findW_at hn hi
 rw [e1] at e2
 unfold nmF
 rw [e2, Int.toNat_natCast]
 exact ⟨hi, e1, rfl⟩
theorem rng_hr {q : Wk} (h : rngW q = false) : 1 ≤ q.hr ∧ q.hr ≤ 1048576 ∧ 1 ≤ q.len ∧ q.len ≤ 524288 ∧ 1 ≤ q.wid ∧ q.wid ≤ 524288 := by
 unfold rngW at h
 simp only [Bool.or_eq_false_iff, Bool.not_eq_false', Bool.and_eq_true, decide_eq_true_eq] at h
 omega
theorem jobs_rng {l : List Wk} (h : jobsE l = 0) : ∀ q ∈ l, 1 ≤ q.hr ∧ q.hr ≤ 1048576 ∧ 1 ≤ q.len ∧ q.len ≤ 524288 ∧ 1 ≤ q.wid ∧ q.wid ≤ 524288 := by
 intro q hq
 obtain ⟨i, hi, hie⟩ := List.getElem_of_mem hq
 have := (badW_inv ((jobsE_inv h).2.1 i hi)).2.2
 have e1 : l.getD i zeroWk = q := by simp [List.getD_eq_getElem?_getD, hi, hie]
 rw [e1] at this
 exact rng_hr this
end Go.Proofs
namespace Go.Proofs
open Go Go.Ab
set_option maxHeartbeats 4000000
set_option maxRecDepth 100000
def insI (x : Int) : List Int → List Int
 | [] => [x]
 | y :: l => if x ≤ y then x :: y :: l else y :: insI x l
def isortI : List Int → List Int
 | [] => []
 | x :: l => insI x (isortI l)
theorem insI_perm (x : Int) : ∀ l, (insI x l).Perm (x :: l)
 | [] => .refl _
 | y :: l => by
  unfold insI
  split
  ·exact .refl _
  ·exact ((insI_perm x l).cons y).trans (.swap x y l)
theorem isortI_perm : ∀ l, (isortI l).Perm l
 | [] => .refl _
 | x :: l => (insI_perm x _).trans ((isortI_perm l).cons x)
theorem insI_asc (x : Int) : ∀ l : List Int, l.Pairwise (· ≤ ·) → (insI x l).Pairwise (· ≤ ·)
 | [], _ => by simp [insI]
 | y :: l, h => by
  rw [List.pairwise_cons] at h
  unfold insI
  split
  ·rename_i hxy
   refine List.pairwise_cons.2 ⟨fun z hz => ?_, List.pairwise_cons.2 h⟩
   rcases List.mem_cons.1 hz with rfl | hz
   ·exact hxy
   ·exact Int.le_trans hxy (h.1 z hz)
  ·rename_i hxy
   refine List.pairwise_cons.2 ⟨fun z hz => ?_, insI_asc x l h.2⟩
   rcases List.mem_cons.1 ((insI_perm x l).mem_iff.1 hz) with rfl | hz
   ·omega
   ·exact h.1 z hz
theorem isortI_asc : ∀ l, (isortI l).Pairwise (· ≤ ·)
 | [] => .nil
 | x :: l => insI_asc x _ (isortI_asc l)
theorem asc_perm_eq : ∀ {l m : List Int}, l.Perm m → l.Pairwise (· ≤ ·) → m.Pairwise (· ≤ ·) → l = m
 | [], m, h, _, _ => by rw [List.nil_perm.1 h]
 | a :: l, [], h, _, _ => by simp at h
 | a :: l, b :: m, h, hl, hm => by
  have hl' := List.pairwise_cons.1 hl
  have hm' := List.pairwise_cons.1 hm
  have hab : a = b := by
   rcases List.mem_cons.1 (h.mem_iff.1 (List.mem_cons.2 (.inl rfl))) with e | e
   ·exact e
   ·rcases List.mem_cons.1 (h.mem_iff.2 (List.mem_cons.2 (.inl rfl))) with e' | e'
    ·exact e'.symm
    ·have := hl'.1 b e'; have := hm'.1 a e; omega
  subst hab
  rw [asc_perm_eq ((List.perm_cons a).1 h) hl'.2 hm'.2]
theorem sortI_isort (l : List Int) : sortI l = isortI l :=
 asc_perm_eq ((List.mergeSort_perm l _).trans (isortI_perm l).symm) (sortZ_asc l) (isortI_asc l)
def spotE' (bs : List By) (l : List Sty) (x : Sty) : Sty × Bool := match scanE (placeB bs l x) (Lib.compact (isortI (lowL l x))) (Lib.compact (isortI (leftL l x))) with
 | some (X, Y) => (x.at_ X Y, true)
 | none => (zeroSty, false)
theorem spotE_eq (bs : List By) (l : List Sty) (x : Sty) : spotE bs l x = spotE' bs l x := by
 unfold spotE spotE'
 rw [sortI_isort, sortI_isort]
 all_goals (generalize scanE (placeB bs l x) (Lib.compact (isortI (lowL l x))) (Lib.compact (isortI (leftL l x))) = o; cases o <;> rfl)
def tryB' (bs : List By) (l : List Sty) (x : Sty) (h t : Int) (q : By) : Option Sty := if (spotE' bs l (x.when q.nm t (IntKind.i64.wrap (t + h)))).2 then some (spotE' bs l (x.when q.nm t (IntKind.i64.wrap (t + h)))).1 else none
theorem tryB_eq (bs : List By) (l : List Sty) (x : Sty) (h t : Int) : tryB bs l x h t = tryB' bs l x h t := by
 funext q
 unfold tryB tryB'
 rw [spotE_eq]
def fitS' (bs : List By) (l : List Sty) (x : Sty) (h : Int) : Option Sty := (Lib.compact (isortI (endsL l x.a))).findSome? fun t => bs.findSome? (tryB' bs l x h t)
theorem fitS_eq (bs : List By) (l : List Sty) (x : Sty) (h : Int) : fitS bs l x h = fitS' bs l x h := by
 unfold fitS fitS' startsZ
 rw [sortI_isort]
 congr 1
 funext t
 rw [tryB_eq]
theorem fitE_some {bs : List By} {l : List Sty} {x y : Sty} {h : Int} (h1 : checkE bs l = 0) (h2 : idB x.item = true) (h3 : fitR x h = false) (h4 : decide ((128 : Int) ≤ l.length) = false) (h5 : fitS' bs l x h = some y) : fitE bs l x h = (y, 0) := by
 unfold fitE
 rw [h1, h2, h3, h4, fitS_eq, h5]; rfl
attribute [local irreducible] Awp aops aopsL Go.Ab.Pure PureOwn
end Go.Proofs
namespace Go.Proofs
open Go Go.Ab
set_option maxHeartbeats 8000000
set_option maxRecDepth 100000
attribute [local irreducible] Awp aops aopsL Go.Ab.Pure PureOwn
theorem few_size {bs : List By} {l : List Sty} (h : fewB bs l = true) : bs.length ≤ 12 ∧ l.length ≤ 60 ∧ ∀ i, i < l.length → (l.getD i zeroSty).item.size ≤ 100 := by
 unfold fewB noneBig at h
 simp only [Bool.and_eq_true, decide_eq_true_eq, List.all_eq_true, List.mem_range] at h
 obtain ⟨⟨⟨_, h2⟩, h3⟩, h4⟩ := h
 refine ⟨by omega, by omega, fun i hi => ?_⟩
 have := h2 i (by omega)
 simp [bigSty] at this
 rw [List.getD_eq_getElem?_getD]
 omega
structure Pl where
 bays : List By
 stays : List Sty
def Pl.av (p : Pl) : AV := .agg [.sl (bys p.bays), .sl (stys p.stays)]
attribute [go_sem] Pl.av
end Go.Proofs
namespace Go.Proofs
open Go Go.Ab
def good (bs : List By) (x : Sty) : Bool := idB x.item && (findB bs x.bay).2 && !rngB x && !offB (findB bs x.bay).1 x
theorem stayE_zero (bs : List By) (l : List Sty) (x : Sty) : stayE bs l x = 0 ↔ good bs x = true ∧ ∀ q ∈ l, overB x q = false := by
 unfold stayE good
 cases idB x.item <;> cases (findB bs x.bay).2 <;> cases rngB x <;> cases offB (findB bs x.bay).1 x <;> simp
theorem cutB_symm (a la b lb : Int) : cutB a la b lb = cutB b lb a la := by unfold cutB; rw [Bool.and_comm]
theorem overB_symm (p q : Sty) : overB p q = overB q p := by
 unfold overB
 rw [cutB_symm p.x, cutB_symm p.y, Bool.beq_comm]
 cases (q.bay.toList == p.bay.toList) <;> cases decide (p.a < q.b) <;> cases decide (q.a < p.b) <;> rfl
def apart (p q : Sty) : Prop := overB p q = false
def baysOk (bs : List By) : Prop := bs.length ≤ 8 ∧ ∀ i, i < bs.length → bayAt bs i = 0
theorem checkE_iff (bs : List By) (l : List Sty) : checkE bs l = 0 ↔ baysOk bs ∧ l.length ≤ 128 ∧ (∀ x ∈ l, good bs x = true) ∧ l.Pairwise apart := by
 have hst : firstE (fun i => stayE bs (l.take i) (l.getD i zeroSty)) l.length = 0 ↔ (∀ x ∈ l, good bs x = true) ∧ l.Pairwise apart := by
  rw [firstE_zero]
  have hget : ∀ i (h : i < l.length), l.getD i zeroSty = l[i] := fun i h => by simp [List.getD_eq_getElem?_getD, h]
  constructor
  ·intro h
   refine ⟨fun x hx => ?_, List.pairwise_iff_getElem.2 fun i j hi hj hij => ?_⟩
   ·obtain ⟨i, hi, rfl⟩ := List.getElem_of_mem hx
    have := ((stayE_zero _ _ _).1 (h i hi)).1
    rwa [hget i hi] at this
   ·have := ((stayE_zero _ _ _).1 (h j hj)).2 l[i] (List.mem_take_iff_getElem.2 ⟨i, by omega, rfl⟩)
    rw [hget j hj, overB_symm] at this
    exact this
  ·rintro ⟨h1, h2⟩ i hi
   rw [stayE_zero, hget i hi]
   refine ⟨h1 _ (List.getElem_mem hi), fun q hq => ?_⟩
   obtain ⟨j, hj, rfl⟩ := List.mem_take_iff_getElem.1 hq
   have := List.pairwise_iff_getElem.1 h2 j i (by omega) hi (by omega)
   rw [overB_symm]
   exact this
 unfold checkE
 by_cases h1 : bs.length ≤ 8 ∧ l.length ≤ 128
 ·rw [if_neg (by simp; omega)]
  by_cases h2 : firstE (bayAt bs) bs.length = 0
  ·rw [if_neg (by rw [h2]; simp), hst]
   exact ⟨fun h => ⟨⟨h1.1, (firstE_zero _ _).1 h2⟩, h1.2, h⟩, fun h => h.2.2⟩
  ·rw [if_pos (by simpa using h2)]
   exact ⟨fun h => absurd h h2, fun h => absurd ((firstE_zero _ _).2 h.1.2) h2⟩
 ·rw [if_pos (by simp; omega)]
  exact ⟨fun h => by simp at h, fun h => absurd ⟨h.1.1, h.2.1⟩ h1⟩
theorem check_add {bs : List By} {l : List Sty} {x : Sty} (h : checkE bs l = 0) (hl : l.length < 128) (hx : stayE bs l x = 0) : checkE bs (l ++ [x]) = 0 := by
 rw [checkE_iff] at h ⊢
 rw [stayE_zero] at hx
 refine ⟨h.1, by simp; omega, fun y hy => ?_, ?_⟩
 ·rcases List.mem_append.1 hy with hy | hy
  ·exact h.2.2.1 y hy
  ·rw [List.mem_singleton.1 hy]; exact hx.1
 ·rw [List.pairwise_append]
  refine ⟨h.2.2.2, by simp, fun a ha b hb => ?_⟩
  rw [List.mem_singleton.1 hb]
  unfold apart
  rw [overB_symm]
  exact hx.2 a ha
theorem mem_cs (L : List Int) (Y : Int) : Y ∈ Lib.compact (sortI L) ↔ Y ∈ L := by
 show Y ∈ Lib.compact (sortZ L) ↔ Y ∈ L
 exact ((compact_sorted (sortZ L) (sortZ_asc _)).2 Y).trans (mem_sortZ _ _)
theorem mem_starts (l : List Sty) (fr t : Int) : t ∈ startsZ l fr ↔ t = fr ∨ ∃ q ∈ l, fr < q.b ∧ q.b = t := by
 unfold startsZ
 rw [mem_cs]
 unfold endsL
 simp only [List.mem_cons, List.mem_map, List.mem_filter, decide_eq_true_eq, and_assoc]
theorem over_near {x q : Sty} {X Y : Int} (h : overB (x.at_ X Y) q = true) : nearB x q = true := by
 unfold overB Sty.at_ at h
 unfold nearB
 simp only [Bool.and_eq_true, decide_eq_true_eq, beq_iff_eq] at h ⊢
 exact ⟨⟨h.1.1.1.1.symm, h.1.1.1.2⟩, h.1.1.2⟩
theorem place_stay (bs : List By) (l : List Sty) (x : Sty) (X Y : Int) : placeB bs l x X Y = true ↔ stayE bs l (x.at_ X Y) = 0 := by
 unfold placeB
 rw [beq_iff_eq, stayE_zero, stayE_zero]
 refine and_congr_right fun _ => ⟨fun h q hq => ?_, fun h q hq => h q (List.mem_filter.1 hq).1⟩
 cases ho : overB (x.at_ X Y) q
 ·rfl
 ·rw [← ho]; exact h q (List.mem_filter.2 ⟨hq, over_near ho⟩)
theorem scanE_some {P : Int → Int → Bool} {lw c : List Int} {o : Int × Int} (h : scanE P lw c = some o) : P o.1 o.2 = true := by
 unfold scanE at h
 obtain ⟨y, hy, hf⟩ := List.exists_of_findSome?_eq_some h
 cases hg : c.find? (fun x => P x y) with
 | none => rw [hg] at hf; simp at hf
 | some z =>
  rw [hg] at hf
  simp only [Option.map_some, Option.some.injEq] at hf
  subst hf
  exact List.find?_some (p := fun x => P x y) hg
theorem bay_wid {bs : List By} (h : baysOk bs) {nm : ByteArray} (hf : (findB bs nm).2 = true) : 1 ≤ (findB bs nm).1.len ∧ (findB bs nm).1.len ≤ 524288 ∧ 1 ≤ (findB bs nm).1.wid ∧ (findB bs nm).1.wid ≤ 524288 := by
 unfold findB at hf ⊢
 split at hf
 ·simp at hf
 ·rename_i hi
  rw [if_neg hi]
  dsimp only
  unfold idxF at hi ⊢
  split at hi
  ·rename_i hlt
   rw [if_pos hlt]
   have hb := h.2 _ hlt
   rw [Int.toNat_natCast]
   generalize bs.findIdx _ = i at *
   unfold bayAt sideB at hb
   generalize bs.getD i zeroBy = q at *
   split at hb
   ·simp at hb
   ·split at hb
    ·simp at hb
    ·rename_i h2
     simp only [Bool.or_eq_true, Bool.not_eq_true', Bool.and_eq_false_iff, decide_eq_false_iff_not, not_or, Classical.not_not] at h2
     omega
  ·simp at hi
theorem good_box {bs : List By} (hb : baysOk bs) {x : Sty} (h : good bs x = true) : 1 ≤ x.len ∧ 1 ≤ x.wid ∧ 0 ≤ x.x ∧ 0 ≤ x.y ∧ x.x + x.len ≤ (findB bs x.bay).1.len ∧ x.y + x.wid ≤ (findB bs x.bay).1.wid ∧ x.x + x.len ≤ 524288 ∧ x.y + x.wid ≤ 524288 ∧ 0 ≤ x.a ∧ x.a < x.b ∧ x.b ≤ 1048576 ∧ (findB bs x.bay).2 = true ∧ idB x.item = true := by
 unfold good at h
 simp only [Bool.and_eq_true, Bool.not_eq_true'] at h
 obtain ⟨⟨⟨h1, h2⟩, h3⟩, h4⟩ := h
 have hw := bay_wid hb h2
 unfold rngB sideB at h3
 unfold offB at h4
 generalize (findB bs x.bay).1 = q at *
 simp only [Bool.or_eq_false_iff, Bool.not_eq_false', Bool.and_eq_true, decide_eq_true_eq, decide_eq_false_iff_not] at h3 h4
 have e1 : IntKind.i64.wrap (q.len - x.len) = q.len - x.len := wrap_i64 (by omega) (by omega)
 have e2 : IntKind.i64.wrap (q.wid - x.wid) = q.wid - x.wid := wrap_i64 (by omega) (by omega)
 rw [e1, e2] at h4
 refine ⟨by omega, by omega, by omega, by omega, by omega, by omega, by omega, by omega, by omega, by omega, by omega, h2, h1⟩
theorem spot_sound {bs : List By} {l : List Sty} {x : Sty} (h : (spotE bs l x).2 = true) : ∃ X Y, (spotE bs l x).1 = x.at_ X Y ∧ stayE bs l (x.at_ X Y) = 0 := by
 unfold spotE at h ⊢
 cases hs : scanE (placeB bs l x) (Lib.compact (sortI (lowL l x))) (Lib.compact (sortI (leftL l x))) with
 | none => rw [hs] at h; simp at h
 | some o => exact ⟨o.1, o.2, rfl, (place_stay _ _ _ _ _).1 (scanE_some hs)⟩
theorem fit_sound {bs : List By} {l : List Sty} {x y : Sty} {h : Int} (hf : fitS bs l x h = some y) : ∃ t q X Y, t ∈ startsZ l x.a ∧ q ∈ bs ∧ y = (x.when q.nm t (IntKind.i64.wrap (t + h))).at_ X Y ∧ stayE bs l y = 0 := by
 unfold fitS at hf
 obtain ⟨t, ht, hf⟩ := List.exists_of_findSome?_eq_some hf
 obtain ⟨q, hq, hf⟩ := List.exists_of_findSome?_eq_some hf
 unfold tryB at hf
 split at hf
 ·rename_i hs
  obtain ⟨X, Y, e, hst⟩ := spot_sound hs
  simp only [Option.some.injEq] at hf
  subst hf
  exact ⟨t, q, X, Y, ht, hq, e, by rw [e]; exact hst⟩
 ·cases hf
end Go.Proofs
namespace Go.Proofs
open Go Go.Ab
set_option maxHeartbeats 1000000
def its (P : List Sty) : List ByteArray := P.map (·.item)
theorem getD_at {α : Type} {l : List α} {d : α} {i : Nat} (h : i < l.length) : l.getD i d = l[i] := by simp [List.getD_eq_getElem?_getD, h]
theorem ck_rng {bs : List By} {P : List Sty} (h : checkE bs P = 0) {x : Sty} (hx : x ∈ P) : 0 ≤ x.a ∧ x.a < x.b ∧ x.b ≤ 1048576 := by
 have hC := (checkE_iff bs P).1 h
 have := good_box hC.1 (hC.2.2.1 x hx)
 omega
theorem ord_all {l : List Wk} (hE : (ordE l).2 = 0) : jobsE l = 0 ∧ OrdOk l (ordE l).1 ∧ (ids l).Nodup ∧ (ordE l).1.length = l.length :=
 ⟨ordE_jobs hE, ordE_ok hE, ids_nodup (ordE_jobs hE), (ordE_ok hE).len (ids_nodup (ordE_jobs hE))⟩
theorem ord_mem {l : List Wk} (hE : (ordE l).2 = 0) (q : Wk) : q ∈ (ordE l).1 ↔ q ∈ l := by
 obtain ⟨_, h, hn, _⟩ := ord_all hE
 refine ⟨h.mem q, fun hq => ?_⟩
 obtain ⟨q2, hq2, e⟩ := List.mem_map.1 (h.all q.id (List.mem_map.2 ⟨q, hq, rfl⟩))
 obtain ⟨i, hi, hie⟩ := List.getElem_of_mem hq
 obtain ⟨j, hj, hje⟩ := List.getElem_of_mem (h.mem q2 hq2)
 have := ids_inj hn hi hj (by rw [getD_at hi, getD_at hj, hie, hje, e])
 subst this
 rw [hie] at hje
 rw [hje]; exact hq2
theorem unI_le (P : List Sty) (s : ByteArray) (n c : Int) : unI P s n ≤ c ↔ n ≤ c ∧ ∀ y ∈ P, y.item = s → y.b ≤ c := by
 unfold unI
 induction P generalizing n with
 | nil => simp
 | cons y P ih =>
  rw [List.foldl_cons, ih]
  cases h : (y.item.toList == s.toList)
  ·have hne : y.item ≠ s := fun e => by rw [e] at h; simp at h
   rw [if_neg (by decide)]
   simp [hne]
  ·have he : y.item = s := str_eq (by simpa using h)
   rw [if_pos rfl]
   have : imax n y.b ≤ c ↔ n ≤ c ∧ y.b ≤ c := by unfold imax; split <;> omega
   rw [this]
   simp only [List.mem_cons, forall_eq_or_imp, he, forall_const]
   exact and_assoc
theorem until_le (P : List Sty) (c : Int) : ∀ (af : List ByteArray) (n : Int), af.foldl (fun n s => unI P s n) n ≤ c ↔ n ≤ c ∧ ∀ s ∈ af, ∀ y ∈ P, y.item = s → y.b ≤ c
 | [], n => by simp
 | s :: af, n => by
  rw [List.foldl_cons, until_le P c af, unI_le]
  simp only [List.mem_cons, forall_eq_or_imp]
  exact and_assoc
theorem untilE_le (af : List ByteArray) (P : List Sty) (c : Int) : untilE af P ≤ c ↔ 0 ≤ c ∧ ∀ s ∈ af, ∀ y ∈ P, y.item = s → y.b ≤ c := until_le P c af 0
theorem fitE_zero {bs : List By} {l : List Sty} {x : Sty} {h : Int} (hz : (fitE bs l x h).2 = 0) : checkE bs l = 0 ∧ idB x.item = true ∧ fitR x h = false ∧ decide ((128 : Int) ≤ l.length) = false ∧ fitS bs l x h = some (fitE bs l x h).1 := by
 unfold fitE at hz ⊢
 by_cases h1 : checkE bs l = 0
 ·rw [if_neg (by rw [h1]; simp)] at hz ⊢
  cases h2 : idB x.item
  ·rw [h2] at hz; simp at hz
  ·rw [h2] at hz
   rw [if_neg (by simp)] at hz ⊢
   cases h3 : fitR x h
   ·rw [h3] at hz
    rw [if_neg (by simp)] at hz ⊢
    by_cases h4 : (128 : Int) ≤ l.length
    ·rw [if_pos (by simpa using h4)] at hz; simp at hz
    ·rw [if_neg (by simpa using h4)] at hz ⊢
     refine ⟨h1, rfl, rfl, by simpa using h4, ?_⟩
     cases h5 : fitS bs l x h with
     | none => rw [h5] at hz; simp at hz
     | some y => rfl
   ·rw [h3] at hz; simp at hz
 ·rw [if_pos (by simpa using h1)] at hz
  exact absurd hz h1
theorem fit_good {bs : List By} {l : List Sty} {x : Sty} {h : Int} (hz : (fitE bs l x h).2 = 0) : checkE bs (l ++ [(fitE bs l x h).1]) = 0 ∧ (fitE bs l x h).1.item = x.item ∧ (fitE bs l x h).1.len = x.len ∧ (fitE bs l x h).1.wid = x.wid
  ∧ (fitE bs l x h).1.b = (fitE bs l x h).1.a + h ∧ x.a ≤ (fitE bs l x h).1.a ∧ (l = [] → (fitE bs l x h).1.a = x.a) := by
 obtain ⟨h1, h2, h3, h4, h5⟩ := fitE_zero hz
 obtain ⟨t, q, X, Y, ht, hq, ey, hs⟩ := fit_sound h5
 generalize (fitE bs l x h).1 = y at *
 have h4 : l.length < 128 := by have := decide_eq_false_iff_not.1 h4; omega
 have hR : 1 ≤ h ∧ h ≤ 1048576 ∧ 0 ≤ x.a ∧ x.a ≤ 1048576 := by
  unfold fitR at h3
  simp only [Bool.or_eq_false_iff, decide_eq_false_iff_not] at h3
  omega
 have htx : x.a ≤ t ∧ t ≤ 1048576 ∧ (l = [] → t = x.a) := by
  rcases (mem_starts _ _ _).1 ht with rfl | ⟨q, hq, hq2, rfl⟩
  ·exact ⟨by omega, by omega, fun _ => rfl⟩
  ·have hC := (checkE_iff bs l).1 h1
   have := good_box hC.1 (hC.2.2.1 q hq)
   exact ⟨by omega, by omega, fun e => by rw [e] at hq; cases hq⟩
 refine ⟨check_add h1 h4 hs, by rw [ey]; rfl, by rw [ey]; rfl, by rw [ey]; rfl, ?_, ?_, ?_⟩
 ·rw [ey]
  show IntKind.i64.wrap (t + h) = t + h
  exact wrap_i64 (by omega) (by omega)
 ·rw [ey]; exact htx.1
 ·intro e; rw [ey]; exact htx.2.2 e
theorem fit_err {bs : List By} {l : List Sty} {x : Sty} {h : Int} (h1 : checkE bs l = 0) (h2 : idB x.item = true) (h3 : fitR x h = false) (h4 : l.length < 128) (hne : (fitE bs l x h).2 ≠ 0) : (fitE bs l x h).2 = 18 := by
 unfold fitE at hne ⊢
 rw [if_neg (by rw [h1]; simp), if_neg (by rw [h2]; simp), if_neg (by rw [h3]; simp), if_neg (by simp; omega)] at hne ⊢
 cases h5 : fitS bs l x h with
 | none => rfl
 | some y => rw [h5] at hne; exact absurd rfl hne
def rplanG (bs : List By) : List Wk → List Sty → List Sty × Int
 | [], out => (out, 0)
 | q :: S, out => if (fitE bs out (wantS q (untilE q.af out)) q.hr).2 ≠ 0 then ([], (fitE bs out (wantS q (untilE q.af out)) q.hr).2) else rplanG bs S (out ++ [(fitE bs out (wantS q (untilE q.af out)) q.hr).1])
def rplanE (l : List Wk) (bs : List By) : List Sty × Int := if (ordE l).2 ≠ 0 then ([], (ordE l).2) else if checkE bs [] ≠ 0 then ([], checkE bs []) else rplanG bs (ordE l).1 []
structure PlI (S : List Wk) (bs : List By) (i : Nat) (p : Pn) : Prop where
 ol : p.out.length = i
 vl : p.V.length = p.K.length
 it : ∀ j, j < i → (p.out.getD j zeroSty).item = (S.getD j zeroWk).id
 sz : ∀ j, j < i → (p.out.getD j zeroSty).len = (S.getD j zeroWk).len ∧ (p.out.getD j zeroSty).wid = (S.getD j zeroWk).wid ∧ (p.out.getD j zeroSty).b = (p.out.getD j zeroSty).a + (S.getD j zeroWk).hr
 en : ∀ j, j < i → getM p.K p.V (S.getD j zeroWk).id = (p.out.getD j zeroSty).b
 ck : checkE bs p.out = 0
 od : ∀ j, j < i → ∀ s ∈ (S.getD j zeroWk).af, ∀ k, k < i → (S.getD k zeroWk).id = s → (p.out.getD k zeroSty).b ≤ (p.out.getD j zeroSty).a
 z0 : 0 < i → (p.out.getD 0 zeroSty).a = 0
theorem mem_at {α : Type} {l : List α} {x d : α} (h : x ∈ l) : ∃ j, j < l.length ∧ l.getD j d = x := by
 obtain ⟨j, hj, rfl⟩ := List.getElem_of_mem h
 exact ⟨j, hj, getD_at hj⟩
theorem frst_until {l S : List Wk} {bs : List By} {i : Nat} {p : Pn} (ho : OrdOk l S) (h : PlI S bs i p) (hi : i < S.length) : frstM p.K p.V (S.getD i zeroWk).af = untilE (S.getD i zeroWk).af p.out := by
 refine le_ext fun c => ?_
 have e1 : frstM p.K p.V (S.getD i zeroWk).af ≤ c ↔ 0 ≤ c ∧ ∀ s ∈ (S.getD i zeroWk).af, getM p.K p.V s ≤ c := frF_le (getM p.K p.V) _ c
 rw [e1, untilE_le]
 refine and_congr_right fun _ => ⟨fun h1 s hs y hy hys => ?_, fun h1 s hs => ?_⟩
 ·obtain ⟨j, j1, j2, e⟩ := ids_taken.1 (ho.bef i hi s hs)
  obtain ⟨m, m1, m2⟩ := mem_at (d := zeroSty) hy
  have hm : (p.out.getD m zeroSty).item = (S.getD m zeroWk).id := h.it m (by rw [← h.ol]; exact m1)
  rw [m2, hys, ← e] at hm
  have := ids_inj ho.nd j2 (by have := h.ol; omega) hm
  subst this
  have := h1 s hs
  rw [← e, h.en j j1, m2] at this
  exact this
 ·obtain ⟨j, j1, j2, e⟩ := ids_taken.1 (ho.bef i hi s hs)
  rw [← e, h.en j j1]
  refine h1 s hs _ (getD_mem _ (by rw [h.ol]; exact j1)) ?_
  rw [h.it j j1, e]
theorem frst_rng {l S : List Wk} {bs : List By} {i : Nat} {p : Pn} (ho : OrdOk l S) (h : PlI S bs i p) (hi : i < S.length) : 0 ≤ frstM p.K p.V (S.getD i zeroWk).af ∧ frstM p.K p.V (S.getD i zeroWk).af ≤ 1048576 ∧ (i = 0 → frstM p.K p.V (S.getD i zeroWk).af = 0) := by
 refine ⟨frF_nonneg (getM p.K p.V) _, ?_, fun e => ?_⟩
 ·rw [frst_until ho h hi, untilE_le]
  exact ⟨by omega, fun s _ y hy _ => (ck_rng h.ck hy).2.2⟩
 ·have h1 := frF_nonneg (getM p.K p.V) (S.getD i zeroWk).af
  have h2 : frF (getM p.K p.V) (S.getD i zeroWk).af ≤ 0 := by
   rw [frF_le]
   refine ⟨by omega, fun s hs => ?_⟩
   obtain ⟨j, j1, _⟩ := ids_taken.1 (ho.bef i hi s hs)
   omega
  exact Int.le_antisymm h2 h1
theorem job_fit {l : List Wk} (hj : jobsE l = 0) {q : Wk} (hq : q ∈ l) {t : Int} (h0 : 0 ≤ t) (h1 : t ≤ 1048576) : idB (wantS q t).item = true ∧ fitR (wantS q t) q.hr = false := by
 have hr := jobs_rng hj q hq
 obtain ⟨i, hi, hie⟩ := List.getElem_of_mem hq
 have := (badW_inv ((jobsE_inv hj).2.1 i hi)).1
 rw [getD_at hi, hie] at this
 refine ⟨this, ?_⟩
 unfold fitR sideB wantS
 simp only [Bool.or_eq_false_iff, Bool.not_eq_false', Bool.and_eq_true, decide_eq_true_eq, decide_eq_false_iff_not]
 omega
theorem plI_step {l S : List Wk} {bs : List By} {i : Nat} {p : Pn} (hj : jobsE l = 0) (ho : OrdOk l S) (hl : S.length ≤ 128) (h : PlI S bs i p) (hi : i < S.length)
  (hz : (fitE bs p.out (wantS (S.getD i zeroWk) (frstM p.K p.V (S.getD i zeroWk).af)) (S.getD i zeroWk).hr).2 = 0) :
  PlI S bs (i + 1) ⟨pK p.K (S.getD i zeroWk).id, pV p.K p.V (S.getD i zeroWk).id (fitE bs p.out (wantS (S.getD i zeroWk) (frstM p.K p.V (S.getD i zeroWk).af)) (S.getD i zeroWk).hr).1.b, p.out ++ [(fitE bs p.out (wantS (S.getD i zeroWk) (frstM p.K p.V (S.getD i zeroWk).af)) (S.getD i zeroWk).hr).1]⟩ := by
 obtain ⟨g1, g2, g3, g4, g5, g6, g7⟩ := fit_good hz
 have hfr := frst_rng ho h hi
 have hbd : ∀ s ∈ (S.getD i zeroWk).af, getM p.K p.V s ≤ frstM p.K p.V (S.getD i zeroWk).af := ((frF_le (getM p.K p.V) (S.getD i zeroWk).af _).1 (Int.le_refl _)).2
 generalize hy : (fitE bs p.out (wantS (S.getD i zeroWk) (frstM p.K p.V (S.getD i zeroWk).af)) (S.getD i zeroWk).hr).1 = y at *
 have hol := h.ol
 have hold : ∀ j, j < i → (p.out ++ [y]).getD j zeroSty = p.out.getD j zeroSty := fun j hj => getD_app (by omega)
 have hnew : (p.out ++ [y]).getD i zeroSty = y := by rw [← hol]; simp [List.getD_eq_getElem?_getD]
 have hcases : ∀ j, j < i + 1 → j < i ∨ j = i := fun j hj => by omega
 have hself : ∀ k, k < S.length → ∀ s ∈ (S.getD k zeroWk).af, ∀ m, k ≤ m → m < S.length → (S.getD m zeroWk).id ≠ s := by
  intro k hk s hs m hm hml e
  obtain ⟨j, j1, j2, e2⟩ := ids_taken.1 (ho.bef k hk s hs)
  have := ids_inj ho.nd hml j2 (e.trans e2.symm)
  omega
 refine ⟨by simp only; rw [List.length_append, List.length_singleton]; omega, pV_len _ _ _ _ h.vl, ?_, ?_, ?_, g1, ?_, ?_⟩
 ·intro j hj
  simp only
  rcases hcases j hj with hj | rfl
  ·rw [hold j hj]; exact h.it j hj
  ·rw [hnew, g2]; rfl
 ·intro j hj
  simp only
  rcases hcases j hj with hj | rfl
  ·rw [hold j hj]; exact h.sz j hj
  ·rw [hnew]; exact ⟨g3, g4, g5⟩
 ·intro j hj
  simp only
  rcases hcases j hj with hj | rfl
  ·rw [hold j hj, getM_ne h.vl]
   ·exact h.en j hj
   ·intro e
    have := ids_inj ho.nd (show j < S.length by omega) hi e
    omega
  ·rw [hnew]; exact getM_self h.vl _ _
 ·intro j hj s hs k hk e
  simp only
  rcases hcases k hk with hk | rfl
  ·rcases hcases j hj with hj | rfl
   ·rw [hold j hj, hold k hk]; exact h.od j hj s hs k hk e
   ·rw [hold k hk, hnew]
    have h1 := hbd s hs
    rw [← e, h.en k hk] at h1
    have h2 : (wantS (S.getD j zeroWk) (frstM p.K p.V (S.getD j zeroWk).af)).a = frstM p.K p.V (S.getD j zeroWk).af := rfl
    omega
  ·exact absurd e (hself j (by omega) s hs k (by omega) hi)
 ·intro _
  simp only
  by_cases h0 : i = 0
  ·subst h0
   rw [hnew, g7 (List.length_eq_zero_iff.1 hol)]
   exact hfr.2.2 rfl
  ·rw [hold 0 (by omega)]; exact h.z0 (by omega)
theorem drop_at {S : List Wk} {i : Nat} (h : i < S.length) : S.drop i = S.getD i zeroWk :: S.drop (i + 1) := by
 rw [List.drop_eq_getElem_cons h, getD_at h]
theorem plan_run {l S : List Wk} {bs : List By} (hj : jobsE l = 0) (ho : OrdOk l S) (hl : S.length ≤ 128) : ∀ (n i : Nat) (p : Pn), S.length - i = n → i ≤ S.length → PlI S bs i p →
  planG bs (S.drop i) p = rplanG bs (S.drop i) p.out ∧ ((planG bs (S.drop i) p).2 = 0 → ∃ p', PlI S bs S.length p' ∧ (planG bs (S.drop i) p).1 = p'.out) ∧ ((planG bs (S.drop i) p).2 ≠ 0 → (planG bs (S.drop i) p).1 = [])
 | 0, i, p, hn, hi, h => by
  have e : S.drop i = [] := List.drop_eq_nil_of_le (by omega)
  have ei : i = S.length := by omega
  rw [e]
  subst ei
  exact ⟨rfl, fun _ => ⟨p, h, rfl⟩, fun hne => absurd rfl hne⟩
 | n + 1, i, p, hn, hi, h => by
  have hlt : i < S.length := by omega
  rw [drop_at hlt]
  have hu := frst_until ho h hlt
  have hr := frst_rng ho h hlt
  have hf := job_fit hj (ho.mem _ (getD_mem zeroWk hlt)) hr.1 hr.2.1
  have hstep := plI_step hj ho hl h hlt
  unfold planG rplanG
  rw [← hu]
  by_cases hz : (fitE bs p.out (wantS (S.getD i zeroWk) (frstM p.K p.V (S.getD i zeroWk).af)) (S.getD i zeroWk).hr).2 = 0
  ·rw [if_neg (fun hne => hne hz), if_neg (fun hne => hne hz)]
   exact plan_run hj ho hl n (i + 1) _ (by omega) (by omega) (hstep hz)
  ·have he := fit_err h.ck hf.1 hf.2 (by have := h.ol; omega) hz
   rw [if_pos hz, if_pos hz, he]
   exact ⟨rfl, fun h => by simp at h, fun _ => rfl⟩
theorem plan0 {S : List Wk} {bs : List By} (h : checkE bs [] = 0) : PlI S bs 0 ⟨[], [], []⟩ :=
 ⟨rfl, rfl, fun j hj => by omega, fun j hj => by omega, fun j hj => by omega, h, fun j hj => by omega, fun h => by omega⟩
theorem plan_same (l : List Wk) (bs : List By) : planE l bs = rplanE l bs := by
 unfold planE rplanE
 by_cases hE : (ordE l).2 = 0
 ·rw [if_neg (show ¬ (ordE l).2 ≠ 0 by simp [hE]), if_neg (show ¬ (ordE l).2 ≠ 0 by simp [hE])]
  by_cases hc : checkE bs [] = 0
  ·rw [if_neg (show ¬ checkE bs [] ≠ 0 by simp [hc]), if_neg (show ¬ checkE bs [] ≠ 0 by simp [hc])]
   obtain ⟨hj, ho, hn, hl⟩ := ord_all hE
   have h128 := (jobsE_inv hj).1
   exact (plan_run hj ho (by omega) _ 0 ⟨[], [], []⟩ rfl (Nat.zero_le _) (plan0 hc)).1
  ·rw [if_pos hc, if_pos hc]
 ·rw [if_pos hE, if_pos hE]
theorem plan_ord {l : List Wk} {bs : List By} (h : (planE l bs).2 = 0) : (ordE l).2 = 0 := by
 refine Classical.byContradiction fun hE => ?_
 unfold planE at h
 rw [if_pos hE] at h
 exact hE h
theorem plan_good {l : List Wk} {bs : List By} (h : (planE l bs).2 = 0) : ∃ p, PlI (ordE l).1 bs (ordE l).1.length p ∧ (planE l bs).1 = p.out := by
 have hE := plan_ord h
 obtain ⟨hj, ho, hn, hl⟩ := ord_all hE
 have h128 := (jobsE_inv hj).1
 unfold planE at h ⊢
 rw [if_neg (show ¬ (ordE l).2 ≠ 0 by simp [hE])] at h ⊢
 by_cases hc : checkE bs [] = 0
 ·rw [if_neg (show ¬ checkE bs [] ≠ 0 by simp [hc])] at h ⊢
  exact (plan_run hj ho (by omega) _ 0 ⟨[], [], []⟩ rfl (Nat.zero_le _) (plan0 hc)).2.1 h
 ·rw [if_pos hc] at h; exact absurd h hc
theorem plan_bad {l : List Wk} {bs : List By} (h : (planE l bs).2 ≠ 0) : (planE l bs).1 = [] := by
 unfold planE at h ⊢
 by_cases hE : (ordE l).2 = 0
 ·rw [if_neg (show ¬ (ordE l).2 ≠ 0 by simp [hE])] at h ⊢
  by_cases hc : checkE bs [] = 0
  ·rw [if_neg (show ¬ checkE bs [] ≠ 0 by simp [hc])] at h ⊢
   obtain ⟨hj, ho, hn, hl⟩ := ord_all hE
   have h128 := (jobsE_inv hj).1
   exact (plan_run hj ho (by omega) _ 0 ⟨[], [], []⟩ rfl (Nat.zero_le _) (plan0 hc)).2.2 h
  ·rw [if_pos hc]
 ·rw [if_pos hE]
end Go.Proofs
namespace Go.Proofs
open Go Go.Ab
set_option maxHeartbeats 8000000
set_option maxRecDepth 100000
attribute [local irreducible] Awp aops aopsL Go.Ab.Pure PureOwn PureTwoM
theorem pureV_nilc {st : Nat → Prop} {w : World} {es es' : List (List AV)} {c : Value} (hl : es'.length = es.length) (hz : ∀ i : Nat, i < es.length → (es.getD i []).length = (es'.getD i []).length)
  (hc : ∀ i j : Nat, i < es.length → j < (es.getD i []).length → av (es.getD i []) j = av (es'.getD i []) j ∨ (av (es'.getD i []) j = .nils ∧ av (es.getD i []) j = .sl [])) (h : PureV st w (.sl es') c) : PureV st w (.sl es) c := by
 cases h with
 | slE a cap hcap =>
  have : es = [] := List.eq_nil_of_length_eq_zero (by simpa using hl.symm)
  subst this
  exact .slE a cap hcap
 | slC _ g off cap sz f h1 h2 h3 h4 h5 h6 h7 h8 =>
  have hes : ∀ x ∈ es, x.length = sz := fun x hx => by
   obtain ⟨i, hi, rfl⟩ := List.getElem_of_mem hx
   have e1 := hz i hi
   have e2 : es.getD i [] = es[i] := by simp [List.getD_eq_getElem?_getD, hi]
   have e3 : es'.getD i [] = es'[i]'(by omega) := by simp [List.getD_eq_getElem?_getD, show i < es'.length by omega]
   rw [e2, e3] at e1
   rw [e1]
   exact h5 _ (List.getElem_mem _)
  rw [hl]
  refine .slC es g off cap sz f (by rw [← hl]; exact h1) h2 h3 (fun e => h4 (List.eq_nil_of_length_eq_zero (by rw [hl, e]; rfl))) hes h6 (fun i j hi hj => h7 i j (by rw [hl]; exact hi) hj) fun i j hi hj => ?_
  have hjl : j < (es.getD i []).length := by
   have e2 : es.getD i [] = es[i] := by simp [List.getD_eq_getElem?_getD, hi]
   rw [e2, hes _ (List.getElem_mem _)]
   exact hj
  have h9 := h8 i j (by rw [hl]; exact hi) hj
  rcases hc i j hi hjl with k | ⟨k1, k2⟩
  ·rw [k]; exact h9
  ·rw [k1] at h9
   rw [k2]
   generalize f i j = u at h9 ⊢
   cases h9 with
   | nils a => exact .slE a 0 (Nat.zero_le _)
theorem pure_nilc {P : Program} {f : Nat} {es es' : List (List AV)} {r : List AV} {res : AV} (h : Go.Ab.Pure P f (.sl es :: r) res) (hl : es'.length = es.length) (hz : ∀ i : Nat, i < es.length → (es.getD i []).length = (es'.getD i []).length)
  (hc : ∀ i j : Nat, i < es.length → j < (es.getD i []).length → av (es.getD i []) j = av (es'.getD i []) j ∨ (av (es'.getD i []) j = .nils ∧ av (es.getD i []) j = .sl [])) : Go.Ab.Pure P f (.sl es' :: r) res := by
 unfold Go.Ab.Pure at h ⊢
 refine ⟨h.1, fun ok w cs hv => h.2 ok w cs ⟨hv.1, fun j hj => ?_⟩⟩
 have := hv.2 j hj
 match j, hj with
 | 0, _ => exact pureV_nilc hl hz hc this
 | j + 1, _ => exact this
def eBays : List By := [⟨⟨⟨[72]⟩⟩, 20, 10⟩]
def eJobs : List Wk := [⟨⟨⟨[98]⟩⟩, 3, 10, 10, []⟩, ⟨⟨⟨[97]⟩⟩, 5, 12, 10, [⟨⟨[98]⟩⟩]⟩, ⟨⟨⟨[99]⟩⟩, 2, 10, 10, []⟩]
def ePlan : List Sty := [⟨⟨⟨[98]⟩⟩, ⟨⟨[72]⟩⟩, 0, 0, 10, 10, 0, 3⟩, ⟨⟨⟨[97]⟩⟩, ⟨⟨[72]⟩⟩, 0, 0, 12, 10, 3, 8⟩, ⟨⟨⟨[99]⟩⟩, ⟨⟨[72]⟩⟩, 10, 0, 10, 10, 0, 2⟩]
theorem eOrd : ordE eJobs = (eJobs, 0) := by kernel_rfl
theorem eCrit : critE eJobs = 8 := by kernel_rfl
theorem eSpan : spanE ePlan = 8 := by kernel_rfl
theorem eChk1 : pchkE eJobs eBays ePlan = 0 := by kernel_rfl
theorem eChk2 : pchkE eJobs eBays (ePlan.take 2) = 17 := by kernel_rfl
theorem planG_cons {bs : List By} {q : Wk} {S : List Wk} {p : Pn} {x : Sty} (h : fitE bs p.out (wantS q (frstM p.K p.V q.af)) q.hr = (x, 0)) : planG bs (q :: S) p = planG bs S ⟨pK p.K q.id, pV p.K p.V q.id x.b, p.out ++ [x]⟩ := by
 have e : planG bs (q :: S) p = if (fitE bs p.out (wantS q (frstM p.K p.V q.af)) q.hr).2 ≠ 0 then ([], 18)
  else planG bs S ⟨pK p.K q.id, pV p.K p.V q.id (fitE bs p.out (wantS q (frstM p.K p.V q.af)) q.hr).1.b, p.out ++ [(fitE bs p.out (wantS q (frstM p.K p.V q.af)) q.hr).1]⟩ := rfl
 rw [e, h, if_neg (by simp)]
def eS (i : Nat) : Sty := ePlan.getD i zeroSty
def eJ (i : Nat) : Wk := eJobs.getD i zeroWk
def eP0 : Pn := ⟨[], [], []⟩
def ePn (p : Pn) (q : Wk) (x : Sty) : Pn := ⟨pK p.K q.id, pV p.K p.V q.id x.b, p.out ++ [x]⟩
def eP1 : Pn := ePn eP0 (eJ 0) (eS 0)
def eP2 : Pn := ePn eP1 (eJ 1) (eS 1)
theorem eF0 : fitE eBays eP0.out (wantS (eJ 0) (frstM eP0.K eP0.V (eJ 0).af)) (eJ 0).hr = (eS 0, 0) := fitE_some (by kernel_rfl) (by kernel_rfl) (by kernel_rfl) (by kernel_rfl) (by kernel_rfl)
theorem eF1 : fitE eBays eP1.out (wantS (eJ 1) (frstM eP1.K eP1.V (eJ 1).af)) (eJ 1).hr = (eS 1, 0) := fitE_some (by kernel_rfl) (by kernel_rfl) (by kernel_rfl) (by kernel_rfl) (by kernel_rfl)
theorem eF2 : fitE eBays eP2.out (wantS (eJ 2) (frstM eP2.K eP2.V (eJ 2).af)) (eJ 2).hr = (eS 2, 0) := fitE_some (by kernel_rfl) (by kernel_rfl) (by kernel_rfl) (by kernel_rfl) (by kernel_rfl)
theorem ePl : planE eJobs eBays = (ePlan, 0) := by
 unfold planE
 rw [eOrd, if_neg (by simp), if_neg (fun hne => hne (show checkE eBays [] = 0 by kernel_rfl))]
 show planG eBays [eJ 0, eJ 1, eJ 2] eP0 = _
 rw [planG_cons eF0]
 show planG eBays [eJ 1, eJ 2] eP1 = _
 rw [planG_cons eF1]
 show planG eBays [eJ 2] eP2 = _
 rw [planG_cons eF2]
 rfl
theorem alive_ok : Pure Tryz.prog 10 [] (.v (.bool true)) := by
 have ha : ∀ q ∈ eJobs, q.af.length < 1000000 := by
  intro q hq
  simp only [eJobs, List.mem_cons, List.not_mem_nil, or_false] at hq
  rcases hq with rfl | rfl | rfl <;> decide
 have a1 : Pure Tryz.prog 11 [.sl [[.v (.string ⟨⟨[98]⟩⟩), .v (.int .i64 3), .v (.int .i64 10), .v (.int .i64 10), .nils], [.v (.string ⟨⟨[97]⟩⟩), .v (.int .i64 5), .v (.int .i64 12), .v (.int .i64 10), .sl [[.v (.string ⟨⟨[98]⟩⟩)]]], [.v (.string ⟨⟨[99]⟩⟩), .v (.int .i64 2), .v (.int .i64 10), .v (.int .i64 10), .nils]]] (.tup [.sl [[.v (.string ⟨⟨[98]⟩⟩)], [.v (.string ⟨⟨[97]⟩⟩)], [.v (.string ⟨⟨[99]⟩⟩)]], .v (.int .i64 0)]) := by
  have h := order_ok eJobs (by decide) ha
  rw [eOrd] at h
  exact pure_nilc h rfl (fun i hi => by match i, hi with
   | 0, _ => rfl
   | 1, _ => rfl
   | 2, _ => rfl) (fun i j hi hj => by match i, hi, j, hj with
   | 0, _, 0, _ => exact .inl rfl
   | 0, _, 1, _ => exact .inl rfl
   | 0, _, 2, _ => exact .inl rfl
   | 0, _, 3, _ => exact .inl rfl
   | 0, _, 4, _ => exact .inr ⟨rfl, rfl⟩
   | 1, _, 0, _ => exact .inl rfl
   | 1, _, 1, _ => exact .inl rfl
   | 1, _, 2, _ => exact .inl rfl
   | 1, _, 3, _ => exact .inl rfl
   | 1, _, 4, _ => exact .inl rfl
   | 2, _, 0, _ => exact .inl rfl
   | 2, _, 1, _ => exact .inl rfl
   | 2, _, 2, _ => exact .inl rfl
   | 2, _, 3, _ => exact .inl rfl
   | 2, _, 4, _ => exact .inr ⟨rfl, rfl⟩)
 have a2 : Pure Tryz.prog 17 [.sl [[.v (.string ⟨⟨[98]⟩⟩), .v (.int .i64 3), .v (.int .i64 10), .v (.int .i64 10), .nils], [.v (.string ⟨⟨[97]⟩⟩), .v (.int .i64 5), .v (.int .i64 12), .v (.int .i64 10), .sl [[.v (.string ⟨⟨[98]⟩⟩)]]], [.v (.string ⟨⟨[99]⟩⟩), .v (.int .i64 2), .v (.int .i64 10), .v (.int .i64 10), .nils]], .sl [[.v (.string ⟨⟨[72]⟩⟩), .v (.int .i64 20), .v (.int .i64 10)]]] (.tup [.sl [[.v (.string ⟨⟨[98]⟩⟩), .v (.string ⟨⟨[72]⟩⟩), .v (.int .i64 0), .v (.int .i64 0), .v (.int .i64 10), .v (.int .i64 10), .v (.int .i64 0), .v (.int .i64 3)], [.v (.string ⟨⟨[97]⟩⟩), .v (.string ⟨⟨[72]⟩⟩), .v (.int .i64 0), .v (.int .i64 0), .v (.int .i64 12), .v (.int .i64 10), .v (.int .i64 3), .v (.int .i64 8)], [.v (.string ⟨⟨[99]⟩⟩), .v (.string ⟨⟨[72]⟩⟩), .v (.int .i64 10), .v (.int .i64 0), .v (.int .i64 10), .v (.int .i64 10), .v (.int .i64 0), .v (.int .i64 2)]], .v (.int .i64 0)]) := by
  have h := plan_ok eJobs eBays (by decide) (by decide) ha
  rw [ePl] at h
  exact pure_nilc h rfl (fun i hi => by match i, hi with
   | 0, _ => rfl
   | 1, _ => rfl
   | 2, _ => rfl) (fun i j hi hj => by match i, hi, j, hj with
   | 0, _, 0, _ => exact .inl rfl
   | 0, _, 1, _ => exact .inl rfl
   | 0, _, 2, _ => exact .inl rfl
   | 0, _, 3, _ => exact .inl rfl
   | 0, _, 4, _ => exact .inr ⟨rfl, rfl⟩
   | 1, _, 0, _ => exact .inl rfl
   | 1, _, 1, _ => exact .inl rfl
   | 1, _, 2, _ => exact .inl rfl
   | 1, _, 3, _ => exact .inl rfl
   | 1, _, 4, _ => exact .inl rfl
   | 2, _, 0, _ => exact .inl rfl
   | 2, _, 1, _ => exact .inl rfl
   | 2, _, 2, _ => exact .inl rfl
   | 2, _, 3, _ => exact .inl rfl
   | 2, _, 4, _ => exact .inr ⟨rfl, rfl⟩)
 have a3 : Pure Tryz.prog 13 [.sl [[.v (.string ⟨⟨[98]⟩⟩), .v (.int .i64 3), .v (.int .i64 10), .v (.int .i64 10), .nils], [.v (.string ⟨⟨[97]⟩⟩), .v (.int .i64 5), .v (.int .i64 12), .v (.int .i64 10), .sl [[.v (.string ⟨⟨[98]⟩⟩)]]], [.v (.string ⟨⟨[99]⟩⟩), .v (.int .i64 2), .v (.int .i64 10), .v (.int .i64 10), .nils]]] (.tup [.v (.int .i64 8), .v (.int .i64 0)]) := by
  have h := critical_ok eJobs (by decide) ha
  rw [eOrd, eCrit] at h
  exact pure_nilc h rfl (fun i hi => by match i, hi with
   | 0, _ => rfl
   | 1, _ => rfl
   | 2, _ => rfl) (fun i j hi hj => by match i, hi, j, hj with
   | 0, _, 0, _ => exact .inl rfl
   | 0, _, 1, _ => exact .inl rfl
   | 0, _, 2, _ => exact .inl rfl
   | 0, _, 3, _ => exact .inl rfl
   | 0, _, 4, _ => exact .inr ⟨rfl, rfl⟩
   | 1, _, 0, _ => exact .inl rfl
   | 1, _, 1, _ => exact .inl rfl
   | 1, _, 2, _ => exact .inl rfl
   | 1, _, 3, _ => exact .inl rfl
   | 1, _, 4, _ => exact .inl rfl
   | 2, _, 0, _ => exact .inl rfl
   | 2, _, 1, _ => exact .inl rfl
   | 2, _, 2, _ => exact .inl rfl
   | 2, _, 3, _ => exact .inl rfl
   | 2, _, 4, _ => exact .inr ⟨rfl, rfl⟩)
 have a4 : Pure Tryz.prog 20 [.sl [[.v (.string ⟨⟨[98]⟩⟩), .v (.int .i64 3), .v (.int .i64 10), .v (.int .i64 10), .nils], [.v (.string ⟨⟨[97]⟩⟩), .v (.int .i64 5), .v (.int .i64 12), .v (.int .i64 10), .sl [[.v (.string ⟨⟨[98]⟩⟩)]]], [.v (.string ⟨⟨[99]⟩⟩), .v (.int .i64 2), .v (.int .i64 10), .v (.int .i64 10), .nils]], .sl [[.v (.string ⟨⟨[72]⟩⟩), .v (.int .i64 20), .v (.int .i64 10)]], .sl [[.v (.string ⟨⟨[98]⟩⟩), .v (.string ⟨⟨[72]⟩⟩), .v (.int .i64 0), .v (.int .i64 0), .v (.int .i64 10), .v (.int .i64 10), .v (.int .i64 0), .v (.int .i64 3)], [.v (.string ⟨⟨[97]⟩⟩), .v (.string ⟨⟨[72]⟩⟩), .v (.int .i64 0), .v (.int .i64 0), .v (.int .i64 12), .v (.int .i64 10), .v (.int .i64 3), .v (.int .i64 8)], [.v (.string ⟨⟨[99]⟩⟩), .v (.string ⟨⟨[72]⟩⟩), .v (.int .i64 10), .v (.int .i64 0), .v (.int .i64 10), .v (.int .i64 10), .v (.int .i64 0), .v (.int .i64 2)]]] (.v (.int .i64 0)) := by
  have h := pchk_ok eJobs eBays ePlan (by decide) (by decide) (by decide) ha
  rw [eChk1] at h
  exact pure_nilc h rfl (fun i hi => by match i, hi with
   | 0, _ => rfl
   | 1, _ => rfl
   | 2, _ => rfl) (fun i j hi hj => by match i, hi, j, hj with
   | 0, _, 0, _ => exact .inl rfl
   | 0, _, 1, _ => exact .inl rfl
   | 0, _, 2, _ => exact .inl rfl
   | 0, _, 3, _ => exact .inl rfl
   | 0, _, 4, _ => exact .inr ⟨rfl, rfl⟩
   | 1, _, 0, _ => exact .inl rfl
   | 1, _, 1, _ => exact .inl rfl
   | 1, _, 2, _ => exact .inl rfl
   | 1, _, 3, _ => exact .inl rfl
   | 1, _, 4, _ => exact .inl rfl
   | 2, _, 0, _ => exact .inl rfl
   | 2, _, 1, _ => exact .inl rfl
   | 2, _, 2, _ => exact .inl rfl
   | 2, _, 3, _ => exact .inl rfl
   | 2, _, 4, _ => exact .inr ⟨rfl, rfl⟩)
 have a5 : Pure Tryz.prog 20 [.sl [[.v (.string ⟨⟨[98]⟩⟩), .v (.int .i64 3), .v (.int .i64 10), .v (.int .i64 10), .nils], [.v (.string ⟨⟨[97]⟩⟩), .v (.int .i64 5), .v (.int .i64 12), .v (.int .i64 10), .sl [[.v (.string ⟨⟨[98]⟩⟩)]]], [.v (.string ⟨⟨[99]⟩⟩), .v (.int .i64 2), .v (.int .i64 10), .v (.int .i64 10), .nils]], .sl [[.v (.string ⟨⟨[72]⟩⟩), .v (.int .i64 20), .v (.int .i64 10)]], .sl [[.v (.string ⟨⟨[98]⟩⟩), .v (.string ⟨⟨[72]⟩⟩), .v (.int .i64 0), .v (.int .i64 0), .v (.int .i64 10), .v (.int .i64 10), .v (.int .i64 0), .v (.int .i64 3)], [.v (.string ⟨⟨[97]⟩⟩), .v (.string ⟨⟨[72]⟩⟩), .v (.int .i64 0), .v (.int .i64 0), .v (.int .i64 12), .v (.int .i64 10), .v (.int .i64 3), .v (.int .i64 8)]]] (.v (.int .i64 17)) := by
  have h := pchk_ok eJobs eBays (ePlan.take 2) (by decide) (by decide) (by decide) ha
  rw [eChk2] at h
  exact pure_nilc h rfl (fun i hi => by match i, hi with
   | 0, _ => rfl
   | 1, _ => rfl
   | 2, _ => rfl) (fun i j hi hj => by match i, hi, j, hj with
   | 0, _, 0, _ => exact .inl rfl
   | 0, _, 1, _ => exact .inl rfl
   | 0, _, 2, _ => exact .inl rfl
   | 0, _, 3, _ => exact .inl rfl
   | 0, _, 4, _ => exact .inr ⟨rfl, rfl⟩
   | 1, _, 0, _ => exact .inl rfl
   | 1, _, 1, _ => exact .inl rfl
   | 1, _, 2, _ => exact .inl rfl
   | 1, _, 3, _ => exact .inl rfl
   | 1, _, 4, _ => exact .inl rfl
   | 2, _, 0, _ => exact .inl rfl
   | 2, _, 1, _ => exact .inl rfl
   | 2, _, 2, _ => exact .inl rfl
   | 2, _, 3, _ => exact .inl rfl
   | 2, _, 4, _ => exact .inr ⟨rfl, rfl⟩)
 have a6 : Pure Tryz.prog 15 [.sl [[.v (.string ⟨⟨[98]⟩⟩)], [.v (.string ⟨⟨[97]⟩⟩)], [.v (.string ⟨⟨[99]⟩⟩)]], .sl [[.v (.string ⟨⟨[98]⟩⟩)], [.v (.string ⟨⟨[97]⟩⟩)], [.v (.string ⟨⟨[99]⟩⟩)]]] (.v (.bool true)) := same04_ok (ids eJobs) (by decide)
 have a7 : Pure Tryz.prog 19 [.sl [[.v (.string ⟨⟨[98]⟩⟩), .v (.string ⟨⟨[72]⟩⟩), .v (.int .i64 0), .v (.int .i64 0), .v (.int .i64 10), .v (.int .i64 10), .v (.int .i64 0), .v (.int .i64 3)], [.v (.string ⟨⟨[97]⟩⟩), .v (.string ⟨⟨[72]⟩⟩), .v (.int .i64 0), .v (.int .i64 0), .v (.int .i64 12), .v (.int .i64 10), .v (.int .i64 3), .v (.int .i64 8)], [.v (.string ⟨⟨[99]⟩⟩), .v (.string ⟨⟨[72]⟩⟩), .v (.int .i64 10), .v (.int .i64 0), .v (.int .i64 10), .v (.int .i64 10), .v (.int .i64 0), .v (.int .i64 2)]], .sl [[.v (.string ⟨⟨[98]⟩⟩), .v (.string ⟨⟨[72]⟩⟩), .v (.int .i64 0), .v (.int .i64 0), .v (.int .i64 10), .v (.int .i64 10), .v (.int .i64 0), .v (.int .i64 3)], [.v (.string ⟨⟨[97]⟩⟩), .v (.string ⟨⟨[72]⟩⟩), .v (.int .i64 0), .v (.int .i64 0), .v (.int .i64 12), .v (.int .i64 10), .v (.int .i64 3), .v (.int .i64 8)], [.v (.string ⟨⟨[99]⟩⟩), .v (.string ⟨⟨[72]⟩⟩), .v (.int .i64 10), .v (.int .i64 0), .v (.int .i64 10), .v (.int .i64 10), .v (.int .i64 0), .v (.int .i64 2)]]] (.v (.bool true)) := same42_ok ePlan (by decide)
 have a8 : Pure Tryz.prog 22 [.sl [[.v (.string ⟨⟨[98]⟩⟩), .v (.string ⟨⟨[72]⟩⟩), .v (.int .i64 0), .v (.int .i64 0), .v (.int .i64 10), .v (.int .i64 10), .v (.int .i64 0), .v (.int .i64 3)], [.v (.string ⟨⟨[97]⟩⟩), .v (.string ⟨⟨[72]⟩⟩), .v (.int .i64 0), .v (.int .i64 0), .v (.int .i64 12), .v (.int .i64 10), .v (.int .i64 3), .v (.int .i64 8)], [.v (.string ⟨⟨[99]⟩⟩), .v (.string ⟨⟨[72]⟩⟩), .v (.int .i64 10), .v (.int .i64 0), .v (.int .i64 10), .v (.int .i64 10), .v (.int .i64 0), .v (.int .i64 2)]]] (.v (.int .i64 8)) := by
  have h := span_ok ePlan (by decide)
  rw [eSpan] at h
  exact h
 refine fn_pure Tryz.F10 (Nat.le_of_ble_eq_true rfl) ?_; unfold Tryz.ac10 AR AM AO
 repeat' (first
  | (apply Awp.sreg; (case hn => (simp only [List.length_cons, List.length_nil, Nat.reduceAdd] <;> rfl)))
  | (refine st_nil ?_)
  | (apply st_full (d := some 11); (case hr => (simp only [go_sem, *] <;> rfl)); (case hn => (simp; done)); (case hp => (first | (simp; done))))
  | (apply st_full (d := some 13); (case hr => (simp only [go_sem, *] <;> rfl)); (case hn => (simp; done)); (case hp => (first | (simp; done))))
  | (apply st_full (d := some 16); (case hr => (simp only [go_sem, *] <;> rfl)); (case hn => (simp; done)); (case hp => (first | (simp; done))))
  | (apply st_full (d := some 42); (case hr => (simp only [go_sem, *] <;> rfl)); (case hn => (simp; done)); (case hp => (first | (simp; done))))
  | (apply st_a; (case hc => rfl); (case he => (simp only [go_sem, *] <;> rfl)); (case hu => (simp only [updL_nil, updL_cons] <;> rfl)); (case hp => first | trivial | (simp; done)))
  | (apply st_m; (case hc => rfl); (case hg => (simp only [go_sem, *] <;> rfl)); (case he => (intro hQz; (try simp only [wantB_t, wantB_f, Bool.and_eq_true, Bool.not_eq_true', Bool.not_true, Bool.not_false, and_true, true_and] at hQz); simp only [go_sem, *] <;> rfl)); (case hp => (intro hQz; (try simp only [wantB_t, wantB_f, Bool.and_eq_true, Bool.not_eq_true', Bool.or_eq_false_iff, decide_eq_true_eq, decide_eq_false_iff_not, beq_iff_eq, beq_eq_false_iff_ne, bne_iff_ne, bne_eq_false_iff_eq, Int.not_lt, Int.not_le, Int.ofNat_lt, Int.ofNat_le] at hQz); first | trivial)))
  | (apply st_c; (case hc => (simp only [go_sem, *] <;> rfl)); (case hl => (simp only [go_sem, *] <;> rfl)); (case hn => (simp only [go_sem, *] <;> rfl)); (case hp => first | exact a1 | (have hXz := a1; simp only [go_sem, *] at hXz; exact hXz)))
  | (apply st_c; (case hc => (simp only [go_sem, *] <;> rfl)); (case hl => (simp only [go_sem, *] <;> rfl)); (case hn => (simp only [go_sem, *] <;> rfl)); (case hp => first | exact a2 | (have hXz := a2; simp only [go_sem, *] at hXz; exact hXz)))
  | (apply st_c; (case hc => (simp only [go_sem, *] <;> rfl)); (case hl => (simp only [go_sem, *] <;> rfl)); (case hn => (simp only [go_sem, *] <;> rfl)); (case hp => first | exact a3 | (have hXz := a3; simp only [go_sem, *] at hXz; exact hXz)))
  | (apply st_mc; (case hop => rfl); (case hg => (simp only [go_sem, *] <;> rfl)); (case hc => (intro hQz; (try simp only [wantB_t, wantB_f, Bool.and_eq_true, Bool.not_eq_true', Bool.not_true, Bool.not_false, and_true, true_and] at hQz); simp only [go_sem, *] <;> rfl)); (case hl => (intro hQz; (try simp only [wantB_t, wantB_f, Bool.and_eq_true, Bool.not_eq_true', Bool.not_true, Bool.not_false, and_true, true_and] at hQz); simp only [go_sem, *] <;> rfl)); (case hn => (intro hQz; (try simp only [wantB_t, wantB_f, Bool.and_eq_true, Bool.not_eq_true', Bool.not_true, Bool.not_false, and_true, true_and] at hQz); simp only [go_sem, *] <;> rfl)); (case hp => intro hQz; first | exact a4 | (have hXz := a4; simp only [go_sem, *] at hXz; exact hXz)))
  | (apply st_cd; (case hc => (simp only [go_sem, *] <;> rfl)); (case hl => (simp only [go_sem, *] <;> rfl)); (case hn => (simp only [go_sem, *] <;> rfl)); (case hp => first | exact a5 | (have hXz := a5; simp only [go_sem, *] at hXz; exact hXz)); (case hd => first | exact .v _ | exact .any | exact .nils | (repeat' (first | exact Dry.v _ | exact Dry.any | exact Dry.nils | exact Dry.slE | refine Dry.agg ?_ | refine Dry.tup ?_ | (refine List.forall_mem_cons.2 (And.intro ?_ ?_)) | (intro cQ hQ; cases hQ; done)))); (case hm => first | decide | (simp; done)))
  | (apply st_c; (case hc => (simp only [go_sem, *] <;> rfl)); (case hl => (simp only [go_sem, *] <;> rfl)); (case hn => (simp only [go_sem, *] <;> rfl)); (case hp => first | exact a6 | (have hXz := a6; simp only [go_sem, *] at hXz; exact hXz)))
  | (apply st_cd; (case hc => (simp only [go_sem, *] <;> rfl)); (case hl => (simp only [go_sem, *] <;> rfl)); (case hn => (simp only [go_sem, *] <;> rfl)); (case hp => first | exact a7 | (have hXz := a7; simp only [go_sem, *] at hXz; exact hXz)); (case hd => first | exact .v _ | exact .any | exact .nils | (repeat' (first | exact Dry.v _ | exact Dry.any | exact Dry.nils | exact Dry.slE | refine Dry.agg ?_ | refine Dry.tup ?_ | (refine List.forall_mem_cons.2 (And.intro ?_ ?_)) | (intro cQ hQ; cases hQ; done)))); (case hm => first | decide | (simp; done)))
  | (apply st_mc; (case hop => rfl); (case hg => (simp only [go_sem, *] <;> rfl)); (case hc => (intro hQz; (try simp only [wantB_t, wantB_f, Bool.and_eq_true, Bool.not_eq_true', Bool.not_true, Bool.not_false, and_true, true_and] at hQz); simp only [go_sem, *] <;> rfl)); (case hl => (intro hQz; (try simp only [wantB_t, wantB_f, Bool.and_eq_true, Bool.not_eq_true', Bool.not_true, Bool.not_false, and_true, true_and] at hQz); simp only [go_sem, *] <;> rfl)); (case hn => (intro hQz; (try simp only [wantB_t, wantB_f, Bool.and_eq_true, Bool.not_eq_true', Bool.not_true, Bool.not_false, and_true, true_and] at hQz); simp only [go_sem, *] <;> rfl)); (case hp => intro hQz; first | exact a8 | (have hXz := a8; simp only [go_sem, *] at hXz; exact hXz)))
  | (apply st_g; (case hv => (simp only [go_sem, *] <;> rfl)); all_goals (intro hg; (try simp only [Bool.not_true, Bool.not_false, reduceCtorEq] at hg); (try have hg' := hg); (try simp only [decide_eq_true_eq, decide_eq_false_iff_not, Bool.and_eq_true, Bool.or_eq_false_iff, bne_iff_ne, bne_eq_false_iff_eq, beq_iff_eq, beq_eq_false_iff_ne, Int.not_lt, Int.not_le, Int.ofNat_lt, Int.ofNat_le, Int.natCast_inj] at hg')))
  | (refine Awp.ret ?_; try simp only [go_sem, *]))
 all_goals repeat' (first | exact Lower.bool (by first | rfl | (simp only [true_and, Bool.true_and, Bool.false_and, Bool.and_true, Bool.and_false, Bool.true_or, Bool.false_or, reduceIte, Bool.false_eq_true, *]; done) | (simp only [true_and, reduceIte, Bool.false_eq_true, *] <;> rfl) | (simp [true_and]; done) | (simp_all [true_and]; done) | omega))
end Go.Proofs
namespace Go.Ab
def putS (n : Int) (r : List Int × Bool) (v : Int) : List Int × Bool :=
  let r1 := if !r.2 && decide (n ≤ v) then (r.1 ++ [n], true) else r
  if v != n then (r1.1 ++ [v], r1.2) else r1
def putZ (l : List Int) (n : Int) : List Int := if (l.foldl (putS n) ([], false)).2 then (l.foldl (putS n) ([], false)).1 else (l.foldl (putS n) ([], false)).1 ++ [n]
theorem put_done (n : Int) : ∀ (l out : List Int), l.foldl (putS n) (out, true) = (out ++ l.filter (· != n), true)
  | [], out => by simp
  | v :: l, out => by
    rw [List.foldl_cons]
    by_cases h : v = n
    · subst h
      have e : putS v (out, true) v = (out, true) := by simp [putS]
      rw [e, put_done v l out]; simp
    · have e : putS n (out, true) v = (out ++ [v], true) := by simp [putS, h]
      rw [e, put_done n l _]; simp [h]
theorem put_open (n : Int) : ∀ (l out : List Int), l.Pairwise (· < ·) → ∃ t, (if (l.foldl (putS n) (out, false)).2 then (l.foldl (putS n) (out, false)).1 else (l.foldl (putS n) (out, false)).1 ++ [n]) = out ++ t ∧ t.Pairwise (· < ·) ∧ ∀ x, x ∈ t ↔ x ∈ l ∨ x = n
  | [], out, _ => ⟨[n], by simp, by simp, by simp⟩
  | v :: l, out, h => by
    rw [List.pairwise_cons] at h
    rw [List.foldl_cons]
    by_cases hv : n ≤ v
    · have e : putS n (out, false) v = (out ++ [n] ++ [v].filter (· != n), true) := by
        by_cases hvn : v = n
        · subst hvn; simp [putS]
        · simp [putS, hv, hvn]
      rw [e, put_done]
      refine ⟨n :: (v :: l).filter (· != n), ?_, ?_, fun x => ?_⟩
      · simp only [if_true, List.append_assoc]
        rw [← List.filter_append]; simp
      · refine List.pairwise_cons.2 ⟨fun x hx => ?_, ?_⟩
        · obtain ⟨h1, h2⟩ := List.mem_filter.1 hx
          have h2 : x ≠ n := by simpa using h2
          rcases List.mem_cons.1 h1 with rfl | h1
          · omega
          · have := h.1 x h1; omega
        · exact (List.pairwise_cons.2 h).filter _
      · simp only [List.mem_cons, List.mem_filter, bne_iff_ne, ne_eq]
        constructor
        · rintro (h1 | ⟨h1, _⟩)
          · exact .inr h1
          · exact .inl h1
        · rintro (h1 | h1)
          · by_cases hxn : x = n
            · exact .inl hxn
            · exact .inr ⟨h1, hxn⟩
          · exact .inl h1
    · have e : putS n (out, false) v = (out ++ [v], false) := by
        have hvn : v ≠ n := by omega
        simp [putS, hv, hvn]
      rw [e]
      obtain ⟨t, h1, h2, h3⟩ := put_open n l (out ++ [v]) h.2
      refine ⟨v :: t, by rw [h1]; simp, List.pairwise_cons.2 ⟨fun x hx => ?_, h2⟩, fun x => ?_⟩
      · rcases (h3 x).1 hx with h4 | h4
        · exact h.1 x h4
        · omega
      · rw [List.mem_cons, h3, List.mem_cons]
        constructor
        · rintro (h4 | h4 | h4)
          · exact .inl (.inl h4)
          · exact .inl (.inr h4)
          · exact .inr h4
        · rintro ((h4 | h4) | h4)
          · exact .inl h4
          · exact .inr (.inl h4)
          · exact .inr (.inr h4)
theorem put_spec (l : List Int) (n : Int) (h : l.Pairwise (· < ·)) : (putZ l n).Pairwise (· < ·) ∧ ∀ x, x ∈ putZ l n ↔ x ∈ l ∨ x = n := by
  obtain ⟨t, h1, h2, h3⟩ := put_open n l [] h
  have e : putZ l n = t := by unfold putZ; rw [h1]; simp
  rw [e]; exact ⟨h2, h3⟩
theorem put_step (A : List Int) (n : Int) : putZ (Lib.compact (sortZ A)) n = Lib.compact (sortZ (A ++ [n])) := by
  obtain ⟨a1, a2⟩ := compact_sorted (sortZ A) (sortZ_asc A)
  obtain ⟨b1, b2⟩ := compact_sorted (sortZ (A ++ [n])) (sortZ_asc _)
  obtain ⟨p1, p2⟩ := put_spec _ n a1
  refine asc_ext p1 b1 fun x => ?_
  rw [p2, a2, b2, mem_sortZ, mem_sortZ]
  simp
theorem putS_len (n : Int) : ∀ (l : List Int) (r : List Int × Bool), (l.foldl (putS n) r).1.length ≤ r.1.length + 2 * l.length
  | [], r => by simp
  | v :: l, r => by
    rw [List.foldl_cons]
    refine Nat.le_trans (putS_len n l _) ?_
    have : (putS n r v).1.length ≤ r.1.length + 2 := by
      unfold putS
      dsimp only
      split <;> split <;> simp <;> omega
    simp only [List.length_cons]
    omega
end Go.Ab
namespace Go.Proofs
open Go Go.Ab
set_option maxHeartbeats 8000000
set_option maxRecDepth 100000
attribute [local irreducible] Awp aops aopsL Go.Ab.Pure PureOwn
theorem take_snocI (l : List Int) (i : Nat) (h : i < l.length) : l.take (i + 1) = l.take i ++ [l.getD i 0] := take_snoc l 0 i h
theorem put_ok (l : List Int) (n : Int) (hl : l.length < 400000) : PureOwn Tryz.prog 58 [.sl (ints l), .v (.int .i64 n)] (ints (putZ l n)) 1 3 := by
 refine fn_own Tryz.F58 (Nat.le_of_ble_eq_true rfl) ?_; unfold Tryz.ac58 AR AM AO
 repeat' (first
  | (apply Awp.sreg; (case hn => (simp only [List.length_cons, List.length_nil, Nat.reduceAdd] <;> rfl)))
  | (refine st_nil ?_)
  | (apply st_a; (case hc => rfl); (case he => (simp only [go_sem, *] <;> rfl)); (case hu => (simp only [updL_nil, updL_cons] <;> rfl)); (case hp => first | trivial))
  | refine Awp.block ?_
  | refine Awp.seq ?_)
 refine Awp.loop (fun i : Nat => i ≤ l.length) 90 (fun i => mkS [(0, .sl (ints l)), (1, .v (.int .i64 n)), (5, .own 0), (6, .v (.bool ((l.take i).foldl (putS n) ([], false)).2)), (7, .v (.int .i64 i))] [(0, .row (ints ((l.take i).foldl (putS n) ([], false)).1) 1 3)]) (fun i => l.length - i) 0 (by omega) ?_ ?_
 ·refine Ghost.trans (Ghost.name 5 1 3 rfl (by decide)) ?_
  have e0 : (l.take 0).foldl (putS n) ([], false) = ([], false) := rfl
  rw [e0]
  (apply Ghost.mk [(0, 4)] []; (case hdead => rfl); (case hinj => rfl); (case hV => (simp only [go_sem, *]) <;> (repeat' (first | refine And.intro ?_ ?_ | exact View.int (by first | rfl | omega | (simp; done) | (rw [wrap_i64] <;> (try simp only [Int.natCast_add]) <;> omega) | (simp [*]; done)) | exact .own rfl (by decide)))); (case hB => (simp only [go_sem, *]) <;> (repeat' (first | exact ⟨_, rfl, .rowE (by first | rfl | omega | (simp; done) | (rw [wrap_i64] <;> (try simp only [Int.natCast_add]) <;> omega) | (simp [*]; done))⟩))))
 ·intro i hi
  by_cases hlt : i < l.length
  ·have hlt' : (i : Int) < l.length := by omega
   obtain ⟨r', hst⟩ : ∃ r', (l.take (i + 1)).foldl (putS n) ([], false) = r' := ⟨_, rfl⟩
   have hst2 := hst
   rw [take_snocI l i hlt, List.foldl_append] at hst2
   have hln := putS_len n (l.take i) ([], false)
   have htl : (l.take i).length = i := List.length_take_of_le hi
   have hat := ints_at l i hlt
   generalize (l.take i).foldl (putS n) ([], false) = r at *
   obtain ⟨out, d⟩ := r
   generalize l.getD i 0 = v at *
   simp only [List.foldl_cons, List.foldl_nil, putS, List.length_nil] at hst2 hln
   dsimp only at *
   cases d
   ·by_cases hv : n ≤ v
    ·by_cases hvn : v = n
     ·subst hvn
      simp at hst2
      subst hst2
      have hvv : (v != v) = false := by simp
      have es := ints_snoc out v
      repeat' (first
  | (apply Awp.sreg; (case hn => (simp only [List.length_cons, List.length_nil, Nat.reduceAdd] <;> rfl)))
  | (refine st_nil ?_)
  | (apply st_a; (case hc => rfl); (case he => (simp only [go_sem, *] <;> rfl)); (case hu => (simp only [updL_nil, updL_cons] <;> rfl)); (case hp => first | trivial | omega | (simp; done) | (simp; omega)))
  | (apply st_m; (case hc => rfl); (case hg => (simp only [go_sem, *] <;> rfl)); (case he => (intro hQz; (try simp only [wantB_t, wantB_f, Bool.and_eq_true, Bool.not_eq_true', Bool.not_true, Bool.not_false, and_true, true_and] at hQz); simp only [go_sem, *] <;> rfl)); (case hp => (intro hQz; (try simp only [wantB_t, wantB_f, Bool.and_eq_true, Bool.not_eq_true', Bool.or_eq_false_iff, decide_eq_true_eq, decide_eq_false_iff_not, beq_iff_eq, beq_eq_false_iff_ne, bne_iff_ne, bne_eq_false_iff_eq, Int.not_lt, Int.not_le, Int.ofNat_lt, Int.ofNat_le] at hQz); first | trivial | omega)))
  | (apply Awp.reg; (case hn => (simp only [List.length_cons, List.length_nil, Nat.reduceAdd] <;> rfl)))
  | (refine Awp.skip ?_; try simp only [go_sem, *])
  | refine Awp.block ?_
  | (apply Awp.cond; (case hc => (simp only [go_sem, *] <;> rfl)); all_goals (intro hg; (try simp only [Bool.not_true, Bool.not_false, reduceCtorEq] at hg)))
  | refine Awp.seq ?_)
      refine ⟨i + 1, by omega, by omega, ?_⟩
      (apply Ghost.mk [(0, 107)] []; (case hdead => rfl); (case hinj => rfl); (case hV => (simp only [go_sem, *]) <;> (repeat' (first | refine And.intro ?_ ?_ | exact View.int (by first | rfl | omega | (simp; done) | (rw [wrap_i64] <;> (try simp only [Int.natCast_add]) <;> omega) | (simp [*]; done)) | exact .own rfl (by decide)))); (case hB => (simp only [go_sem, *]) <;> (repeat' (first | exact ⟨_, rfl, .rowE (by first | rfl | omega | (simp; done) | (rw [wrap_i64] <;> (try simp only [Int.natCast_add]) <;> omega) | (simp [*]; done))⟩))))
     ·have hvn' : (v == n) = false := by simpa using hvn
      have hvn2 : (v != n) = true := by simpa using hvn
      simp [hv, hvn] at hst2
      subst hst2
      have es := ints_snoc out n
      have es2 := ints_snoc (out ++ [n]) v
      rw [List.append_assoc] at es2
      repeat' (first
  | (apply Awp.sreg; (case hn => (simp only [List.length_cons, List.length_nil, Nat.reduceAdd] <;> rfl)))
  | (refine st_nil ?_)
  | (apply st_a; (case hc => rfl); (case he => (simp only [go_sem, *] <;> rfl)); (case hu => (simp only [updL_nil, updL_cons] <;> rfl)); (case hp => first | trivial | omega | (simp; done) | (simp; omega)))
  | (apply st_m; (case hc => rfl); (case hg => (simp only [go_sem, *] <;> rfl)); (case he => (intro hQz; (try simp only [wantB_t, wantB_f, Bool.and_eq_true, Bool.not_eq_true', Bool.not_true, Bool.not_false, and_true, true_and] at hQz); simp only [go_sem, *] <;> rfl)); (case hp => (intro hQz; (try simp only [wantB_t, wantB_f, Bool.and_eq_true, Bool.not_eq_true', Bool.or_eq_false_iff, decide_eq_true_eq, decide_eq_false_iff_not, beq_iff_eq, beq_eq_false_iff_ne, bne_iff_ne, bne_eq_false_iff_eq, Int.not_lt, Int.not_le, Int.ofNat_lt, Int.ofNat_le] at hQz); first | trivial | omega)))
  | (apply Awp.reg; (case hn => (simp only [List.length_cons, List.length_nil, Nat.reduceAdd] <;> rfl)))
  | (refine Awp.skip ?_; try simp only [go_sem, *])
  | refine Awp.block ?_
  | (apply Awp.cond; (case hc => (simp only [go_sem, *] <;> rfl)); all_goals (intro hg; (try simp only [Bool.not_true, Bool.not_false, reduceCtorEq] at hg)))
  | refine Awp.seq ?_)
      refine ⟨i + 1, by omega, by omega, ?_⟩
      (apply Ghost.mk [(0, 122)] []; (case hdead => rfl); (case hinj => rfl); (case hV => (simp only [go_sem, *]) <;> (repeat' (first | refine And.intro ?_ ?_ | exact View.int (by first | rfl | omega | (simp; done) | (rw [wrap_i64] <;> (try simp only [Int.natCast_add]) <;> omega) | (simp [*]; done)) | exact .own rfl (by decide)))); (case hB => (simp only [go_sem, *]) <;> (repeat' (first | exact ⟨_, rfl, .rowE (by first | rfl | omega | (simp; done) | (rw [wrap_i64] <;> (try simp only [Int.natCast_add]) <;> omega) | (simp [*]; done))⟩))))
    ·have hvn' : (v == n) = false := by simp; omega
     have hvn2 : (v != n) = true := by simp; omega
     have hvn : ¬ v = n := by omega
     simp [hv, hvn] at hst2
     subst hst2
     have es2 := ints_snoc out v
     repeat' (first
  | (apply Awp.sreg; (case hn => (simp only [List.length_cons, List.length_nil, Nat.reduceAdd] <;> rfl)))
  | (refine st_nil ?_)
  | (apply st_a; (case hc => rfl); (case he => (simp only [go_sem, *] <;> rfl)); (case hu => (simp only [updL_nil, updL_cons] <;> rfl)); (case hp => first | trivial | omega | (simp; done) | (simp; omega)))
  | (apply st_m; (case hc => rfl); (case hg => (simp only [go_sem, *] <;> rfl)); (case he => (intro hQz; (try simp only [wantB_t, wantB_f, Bool.and_eq_true, Bool.not_eq_true', Bool.not_true, Bool.not_false, and_true, true_and] at hQz); simp only [go_sem, *] <;> rfl)); (case hp => (intro hQz; (try simp only [wantB_t, wantB_f, Bool.and_eq_true, Bool.not_eq_true', Bool.or_eq_false_iff, decide_eq_true_eq, decide_eq_false_iff_not, beq_iff_eq, beq_eq_false_iff_ne, bne_iff_ne, bne_eq_false_iff_eq, Int.not_lt, Int.not_le, Int.ofNat_lt, Int.ofNat_le] at hQz); first | trivial | omega)))
  | (apply Awp.reg; (case hn => (simp only [List.length_cons, List.length_nil, Nat.reduceAdd] <;> rfl)))
  | (refine Awp.skip ?_; try simp only [go_sem, *])
  | refine Awp.block ?_
  | (apply Awp.cond; (case hc => (simp only [go_sem, *] <;> rfl)); all_goals (intro hg; (try simp only [Bool.not_true, Bool.not_false, reduceCtorEq] at hg)))
  | refine Awp.seq ?_)
     refine ⟨i + 1, by omega, by omega, ?_⟩
     (apply Ghost.mk [(0, 116)] []; (case hdead => rfl); (case hinj => rfl); (case hV => (simp only [go_sem, *]) <;> (repeat' (first | refine And.intro ?_ ?_ | exact View.int (by first | rfl | omega | (simp; done) | (rw [wrap_i64] <;> (try simp only [Int.natCast_add]) <;> omega) | (simp [*]; done)) | exact .own rfl (by decide)))); (case hB => (simp only [go_sem, *]) <;> (repeat' (first | exact ⟨_, rfl, .rowE (by first | rfl | omega | (simp; done) | (rw [wrap_i64] <;> (try simp only [Int.natCast_add]) <;> omega) | (simp [*]; done))⟩))))
   ·by_cases hvn : v = n
    ·subst hvn
     simp at hst2
     subst hst2
     have hvv : (v != v) = false := by simp
     repeat' (first
  | (apply Awp.sreg; (case hn => (simp only [List.length_cons, List.length_nil, Nat.reduceAdd] <;> rfl)))
  | (refine st_nil ?_)
  | (apply st_a; (case hc => rfl); (case he => (simp only [go_sem, *] <;> rfl)); (case hu => (simp only [updL_nil, updL_cons] <;> rfl)); (case hp => first | trivial | omega))
  | (apply st_m; (case hc => rfl); (case hg => (simp only [go_sem, *] <;> rfl)); (case he => (intro hQz; (try simp only [wantB_t, wantB_f, Bool.and_eq_true, Bool.not_eq_true', Bool.not_true, Bool.not_false, and_true, true_and] at hQz); simp only [go_sem, *] <;> rfl)); (case hp => (intro hQz; (try simp only [wantB_t, wantB_f, Bool.and_eq_true, Bool.not_eq_true', Bool.or_eq_false_iff, decide_eq_true_eq, decide_eq_false_iff_not, beq_iff_eq, beq_eq_false_iff_ne, bne_iff_ne, bne_eq_false_iff_eq, Int.not_lt, Int.not_le, Int.ofNat_lt, Int.ofNat_le] at hQz); first | trivial)))
  | (apply Awp.reg; (case hn => (simp only [List.length_cons, List.length_nil, Nat.reduceAdd] <;> rfl)))
  | (refine Awp.skip ?_; try simp only [go_sem, *])
  | refine Awp.block ?_
  | (apply Awp.cond; (case hc => (simp only [go_sem, *] <;> rfl)); all_goals (intro hg; (try simp only [Bool.not_true, Bool.not_false, reduceCtorEq] at hg)))
  | refine Awp.seq ?_)
     refine ⟨i + 1, by omega, by omega, ?_⟩
     (apply Ghost.mk [] []; (case hdead => rfl); (case hinj => rfl); (case hV => (simp only [go_sem, *]) <;> (repeat' (first | refine And.intro ?_ ?_ | exact View.int (by first | rfl | omega | (simp; done) | (rw [wrap_i64] <;> (try simp only [Int.natCast_add]) <;> omega) | (simp [*]; done)) | exact .own rfl (by decide)))); (case hB => (simp only [go_sem, *]) <;> (repeat' (first | exact ⟨_, rfl, .rowE (by first | rfl | omega | (simp; done) | (rw [wrap_i64] <;> (try simp only [Int.natCast_add]) <;> omega) | (simp [*]; done))⟩))))
    ·have hvn' : (v == n) = false := by simpa using hvn
     have hvn2 : (v != n) = true := by simpa using hvn
     simp [hvn] at hst2
     subst hst2
     have es2 := ints_snoc out v
     repeat' (first
  | (apply Awp.sreg; (case hn => (simp only [List.length_cons, List.length_nil, Nat.reduceAdd] <;> rfl)))
  | (refine st_nil ?_)
  | (apply st_a; (case hc => rfl); (case he => (simp only [go_sem, *] <;> rfl)); (case hu => (simp only [updL_nil, updL_cons] <;> rfl)); (case hp => first | trivial | omega | (simp; done) | (simp; omega)))
  | (apply st_m; (case hc => rfl); (case hg => (simp only [go_sem, *] <;> rfl)); (case he => (intro hQz; (try simp only [wantB_t, wantB_f, Bool.and_eq_true, Bool.not_eq_true', Bool.not_true, Bool.not_false, and_true, true_and] at hQz); simp only [go_sem, *] <;> rfl)); (case hp => (intro hQz; (try simp only [wantB_t, wantB_f, Bool.and_eq_true, Bool.not_eq_true', Bool.or_eq_false_iff, decide_eq_true_eq, decide_eq_false_iff_not, beq_iff_eq, beq_eq_false_iff_ne, bne_iff_ne, bne_eq_false_iff_eq, Int.not_lt, Int.not_le, Int.ofNat_lt, Int.ofNat_le] at hQz); first | trivial)))
  | (apply Awp.reg; (case hn => (simp only [List.length_cons, List.length_nil, Nat.reduceAdd] <;> rfl)))
  | (refine Awp.skip ?_; try simp only [go_sem, *])
  | refine Awp.block ?_
  | (apply Awp.cond; (case hc => (simp only [go_sem, *] <;> rfl)); all_goals (intro hg; (try simp only [Bool.not_true, Bool.not_false, reduceCtorEq] at hg)))
  | refine Awp.seq ?_)
     refine ⟨i + 1, by omega, by omega, ?_⟩
     (apply Ghost.mk [(0, 116)] []; (case hdead => rfl); (case hinj => rfl); (case hV => (simp only [go_sem, *]) <;> (repeat' (first | refine And.intro ?_ ?_ | exact View.int (by first | rfl | omega | (simp; done) | (rw [wrap_i64] <;> (try simp only [Int.natCast_add]) <;> omega) | (simp [*]; done)) | exact .own rfl (by decide)))); (case hB => (simp only [go_sem, *]) <;> (repeat' (first | exact ⟨_, rfl, .rowE (by first | rfl | omega | (simp; done) | (rw [wrap_i64] <;> (try simp only [Int.natCast_add]) <;> omega) | (simp [*]; done))⟩))))
  ·have hlt' : ¬ (i : Int) < l.length := by omega
   have e1 : l.take i = l := List.take_of_length_le (by omega)
   have hln := putS_len n l ([], false)
   rw [e1]
   unfold putZ
   generalize l.foldl (putS n) ([], false) = r at *
   obtain ⟨out, d⟩ := r
   dsimp only at *
   simp only [List.length_nil] at hln
   cases d
   ·have es2 := ints_snoc out n
    rw [if_neg (by simp)]
    repeat' (first
  | (apply Awp.sreg; (case hn => (simp only [List.length_cons, List.length_nil, Nat.reduceAdd] <;> rfl)))
  | (refine st_nil ?_)
  | (apply st_a; (case hc => rfl); (case he => (simp only [go_sem, *] <;> rfl)); (case hu => (simp only [updL_nil, updL_cons] <;> rfl)); (case hp => first | trivial | (simp; done) | (simp; omega)))
  | (apply Awp.reg; (case hn => (simp only [List.length_cons, List.length_nil, Nat.reduceAdd] <;> rfl)))
  | (refine Awp.ret ?_; try simp only [go_sem, *])
  | (refine Awp.exit ?_; try simp only [go_sem, *])
  | (apply Awp.cond; (case hc => (simp only [go_sem, *] <;> rfl)); all_goals (intro hg; (try simp only [Bool.not_true, Bool.not_false, reduceCtorEq] at hg)))
  | refine Awp.seq ?_)
    exact ⟨_, rfl, rfl⟩
   ·rw [if_pos rfl]
    repeat' (first
  | (apply Awp.sreg; (case hn => (simp only [List.length_cons, List.length_nil, Nat.reduceAdd] <;> rfl)))
  | (refine st_nil ?_)
  | (apply st_a; (case hc => rfl); (case he => (simp only [go_sem, *] <;> rfl)); (case hu => (simp only [updL_nil, updL_cons] <;> rfl)); (case hp => first | trivial))
  | (refine Awp.ret ?_; try simp only [go_sem, *])
  | (refine Awp.skip ?_; try simp only [go_sem, *])
  | (refine Awp.exit ?_; try simp only [go_sem, *])
  | (apply Awp.cond; (case hc => (simp only [go_sem, *] <;> rfl)); all_goals (intro hg; (try simp only [Bool.not_true, Bool.not_false, reduceCtorEq] at hg)))
  | refine Awp.seq ?_)
    exact ⟨_, rfl, rfl⟩
end Go.Proofs
namespace Go.Proofs
open Go Go.Ab
set_option maxHeartbeats 4000000
set_option maxRecDepth 100000
attribute [local irreducible] Awp aops aopsL Go.Ab.Pure PureOwn
theorem ints_dry (l : List Int) : ∀ y ∈ ints l, ∀ c ∈ y, Dry c := by
 intro y hy c hc
 obtain ⟨z, _, rfl⟩ := List.mem_map.1 hy
 rw [List.mem_singleton.1 hc]
 exact .v _
def lowC (l : List Sty) (x : Sty) : List Int := Lib.compact (sortI (lowL l x))
def leftC (l : List Sty) (x : Sty) : List Int := Lib.compact (sortI (leftL l x))
theorem lowC_len (l : List Sty) (x : Sty) : (lowC l x).length ≤ l.length + 1 := by
 unfold lowC
 refine Nat.le_trans (compact_len _) ?_
 rw [sortI_len]
 have := nearL_len l x
 simp [lowL]; omega
theorem leftC_len (l : List Sty) (x : Sty) : (leftC l x).length ≤ l.length + 1 := by
 unfold leftC
 refine Nat.le_trans (compact_len _) ?_
 rw [sortI_len]
 have := nearL_len l x
 simp [leftL]; omega
def rsS (bs : List By) (l : List Sty) (x : Sty) (near : List Sty) (low left : List Int) (i : Nat) : AState :=
 mkS [(0, .sl (bys bs)), (1, .sl (stys l)), (5, .bp 0 0), (6, .bp 1 0), (8, .own 2), (9, .own 3), (10, .own 4), (11, .v (.int .i64 i))]
  [(0, .box x.cells), (1, .box boxZ), (2, .row (ints left) 1 3), (3, .row (ints low) 1 3), (4, .row (stys near) 8 48)]
def rkS (bs : List By) (near : List Sty) (x : Sty) (low left : List Int) (q : Nat × (Int × Int)) : AState :=
 mkS [(0, .sl (bys bs)), (5, .bp 0 0), (6, .bp 1 0), (8, .own 2), (9, .own 3), (10, .own 4), (13, .v (.int .i64 q.1))]
  [(0, .box (x.at_ q.2.1 q.2.2).cells), (1, .box boxZ), (2, .row (ints left) 1 3), (3, .row (ints low) 1 3), (4, .row (stys near) 8 48)]
def riS (bs : List By) (near : List Sty) (x : Sty) (low left : List Int) (j : Nat) (q : Nat × (Int × Int)) : AState :=
 mkS [(0, .sl (bys bs)), (5, .bp 0 0), (6, .bp 1 0), (8, .own 2), (9, .own 3), (10, .own 4), (13, .v (.int .i64 j)), (14, .v (.int .i64 q.1))]
  [(0, .box (x.at_ q.2.1 q.2.2).cells), (1, .box boxZ), (2, .row (ints left) 1 3), (3, .row (ints low) 1 3), (4, .row (stys near) 8 48)]
theorem rspot_ok (bs : List By) (l : List Sty) (x : Sty) (hb : bs.length < 100000) (hl : l.length < 90000) (hx : x.item.size < 1000000) : Pure Tryz.prog 59 [.sl (bys bs), .sl (stys l), x.av] (.tup [(spotE bs l x).1.av, .v (.bool (spotE bs l x).2)]) := by
 refine fn_pure Tryz.F59 (Nat.le_of_ble_eq_true rfl) ?_; unfold Tryz.ac59 AR AM AO
 repeat' (first
  | (apply Awp.sreg; (case hn => (simp only [List.length_cons, List.length_nil, Nat.reduceAdd] <;> rfl)))
  | (refine st_nil ?_)
  | (apply st_a; (case hc => rfl); (case he => (simp only [go_sem, *] <;> rfl)); (case hu => (simp only [updL_nil, updL_cons] <;> rfl)); (case hp => first | trivial | (simp; done)))
  | refine Awp.block ?_
  | refine Awp.seq ?_)
 refine Awp.loop (fun i : Nat => i ≤ l.length) 200 (fun i => rsS bs l x (nearL (l.take i) x) (lowC (l.take i) x) (leftC (l.take i) x) i) (fun i => l.length - i) 0 (by omega) ?_ ?_
 ·refine Ghost.trans (Ghost.name 10 8 48 rfl (by decide)) ?_
  have e1 : lowC (l.take 0) x = [0] := by show Lib.compact (sortI [0]) = [0]; decide +kernel
  have e2 : leftC (l.take 0) x = [0] := by show Lib.compact (sortI [0]) = [0]; decide +kernel
  have e3 : nearL (l.take 0) x = [] := rfl
  rw [e1, e2, e3]
  unfold rsS boxZ
  (apply Ghost.mk [(2, 3), (3, 4), (4, 9)] []; (case hdead => rfl); (case hinj => rfl); (case hV => (simp only [go_sem, *]) <;> (repeat' (first | refine And.intro ?_ ?_ | exact View.int (by first | rfl | omega | (simp; done) | (rw [wrap_i64] <;> (try simp only [Int.natCast_add]) <;> omega) | (simp [*]; done)) | exact .bp rfl (by decide) | exact .own rfl (by decide)))); (case hB => (simp only [go_sem, *]) <;> (repeat' (first | refine And.intro ?_ ?_ | exact ⟨_, rfl, BView.boxF rfl⟩ | exact ⟨_, rfl, .rowE (by first | rfl | omega | (simp; done) | (rw [wrap_i64] <;> (try simp only [Int.natCast_add]) <;> omega) | (simp [*]; done))⟩))))
 ·intro i hi
  by_cases hlt : i < l.length
  ·have hlt' : (i : Int) < l.length := by omega
   have hat := stys_at l i hlt
   have hz : ((l.getD i zeroSty).cells).length = 8 := rfl
   have hst := nearL_step l x i hlt
   have hln := nearL_len (l.take i) x
   have htl : (l.take i).length = i := List.length_take_of_le hi
   have h1 := stys_one (nearL (l.take i) x)
   have h2 := lowC_len (l.take i) x
   have h3 := leftC_len (l.take i) x
   cases hB : nearB x (l.getD i zeroSty)
   ·rw [hB] at hst
    simp only [Bool.false_eq_true, if_false, List.append_nil] at hst
    have hB' : (((l.getD i zeroSty).bay.toList == x.bay.toList) && decide ((l.getD i zeroSty).a < x.b) && decide (x.a < (l.getD i zeroSty).b)) = false := by
     rw [← hB]; unfold nearB; rw [Bool.and_right_comm]
    have e2 : lowC (l.take (i + 1)) x = lowC (l.take i) x := by unfold lowC lowL; rw [hst]
    have e3 : leftC (l.take (i + 1)) x = leftC (l.take i) x := by unfold leftC leftL; rw [hst]
    unfold rsS boxZ
    repeat' (first
  | (apply Awp.sreg; (case hn => (simp only [List.length_cons, List.length_nil, Nat.reduceAdd] <;> rfl)))
  | (refine st_nil ?_)
  | (apply st_a; (case hc => rfl); (case he => (simp only [go_sem, *] <;> rfl)); (case hu => (simp only [updL_nil, updL_cons] <;> rfl)); (case hp => first | trivial | omega))
  | (apply st_m; (case hc => rfl); (case hg => (simp only [go_sem, *] <;> rfl)); (case he => (intro hQz; (try simp only [wantB_t, wantB_f, Bool.and_eq_true, Bool.not_eq_true', Bool.not_true, Bool.not_false, and_true, true_and] at hQz); simp only [go_sem, *] <;> rfl)); (case hp => (intro hQz; (try simp only [wantB_t, wantB_f, Bool.and_eq_true, Bool.not_eq_true', Bool.or_eq_false_iff, decide_eq_true_eq, decide_eq_false_iff_not, beq_iff_eq, beq_eq_false_iff_ne, bne_iff_ne, bne_eq_false_iff_eq, Int.not_lt, Int.not_le, Int.ofNat_lt, Int.ofNat_le] at hQz); first | trivial)))
  | (apply Awp.reg; (case hn => (simp only [List.length_cons, List.length_nil, Nat.reduceAdd] <;> rfl)))
  | (refine Awp.skip ?_; try simp only [go_sem, *])
  | refine Awp.block ?_
  | (apply Awp.cond; (case hc => (simp only [go_sem, *] <;> rfl)); all_goals (intro hg; (try simp only [Bool.not_true, Bool.not_false, reduceCtorEq] at hg)))
  | refine Awp.seq ?_)
    refine ⟨i + 1, by omega, by omega, ?_⟩
    rw [hst, e2, e3]
    (apply Ghost.mk [] []; (case hdead => rfl); (case hinj => rfl); (case hV => (simp only [go_sem, *]) <;> (repeat' (first | refine And.intro ?_ ?_ | exact View.int (by first | rfl | omega | (simp; done) | (rw [wrap_i64] <;> (try simp only [Int.natCast_add]) <;> omega) | (simp [*]; done)) | exact .bp rfl (by decide) | exact .own rfl (by decide)))); (case hB => (simp only [go_sem, *]) <;> (repeat' (first | refine And.intro ?_ ?_ | exact ⟨_, rfl, BView.boxF rfl⟩ | exact ⟨_, rfl, .rowE (by first | rfl | omega | (simp; done) | (rw [wrap_i64] <;> (try simp only [Int.natCast_add]) <;> omega) | (simp [*]; done))⟩))))
   ·rw [hB] at hst
    simp only [if_true] at hst
    have hB' : (((l.getD i zeroSty).bay.toList == x.bay.toList) && decide ((l.getD i zeroSty).a < x.b) && decide (x.a < (l.getD i zeroSty).b)) = true := by
     rw [← hB]; unfold nearB; rw [Bool.and_right_comm]
    have e2 : putZ (lowC (l.take i) x) (IntKind.i64.wrap ((l.getD i zeroSty).y + (l.getD i zeroSty).wid)) = lowC (l.take (i + 1)) x := by
     refine (put_step (lowL (l.take i) x) _).trans ?_
     show _ = Lib.compact (sortZ _)
     unfold lowL; rw [hst]; simp
    have e3 : putZ (leftC (l.take i) x) (IntKind.i64.wrap ((l.getD i zeroSty).x + (l.getD i zeroSty).len)) = leftC (l.take (i + 1)) x := by
     refine (put_step (leftL (l.take i) x) _).trans ?_
     show _ = Lib.compact (sortZ _)
     unfold leftL; rw [hst]; simp
    have p2 := put_ok (lowC (l.take i) x) (IntKind.i64.wrap ((l.getD i zeroSty).y + (l.getD i zeroSty).wid)) (by omega)
    have p3 := put_ok (leftC (l.take i) x) (IntKind.i64.wrap ((l.getD i zeroSty).x + (l.getD i zeroSty).len)) (by omega)
    rw [e2] at p2
    rw [e3] at p3
    clear e2 e3
    unfold rsS boxZ
    repeat' (first
  | (apply Awp.sreg; (case hn => (simp only [List.length_cons, List.length_nil, Nat.reduceAdd] <;> rfl)))
  | (refine st_nil ?_)
  | (apply st_a; (case hc => rfl); (case he => (simp only [go_sem, *] <;> rfl)); (case hu => (simp only [updL_nil, updL_cons] <;> rfl)); (case hp => first | trivial | omega | (simp; done) | (simp; omega)))
  | (apply st_m; (case hc => rfl); (case hg => (simp only [go_sem, *] <;> rfl)); (case he => (intro hQz; (try simp only [wantB_t, wantB_f, Bool.and_eq_true, Bool.not_eq_true', Bool.not_true, Bool.not_false, and_true, true_and] at hQz); simp only [go_sem, *] <;> rfl)); (case hp => (intro hQz; (try simp only [wantB_t, wantB_f, Bool.and_eq_true, Bool.not_eq_true', Bool.or_eq_false_iff, decide_eq_true_eq, decide_eq_false_iff_not, beq_iff_eq, beq_eq_false_iff_ne, bne_iff_ne, bne_eq_false_iff_eq, Int.not_lt, Int.not_le, Int.ofNat_lt, Int.ofNat_le] at hQz); first | trivial)))
  | (apply st_cod; (case hc => (simp only [go_sem, *] <;> rfl)); (case hl => (simp only [go_sem, *] <;> rfl)); (case hn => (simp only [go_sem, *] <;> rfl)); (case hp => first | exact p2 | (have hXz := p2; simp only [go_sem, *] at hXz; exact hXz)); (case hd => first | exact sps_dry _ | exact ints_dry _ | (repeat' (first | exact Dry.v _ | exact Dry.any | exact Dry.nils | exact Dry.slE | refine Dry.agg ?_ | refine Dry.tup ?_ | (refine List.forall_mem_cons.2 (And.intro ?_ ?_)) | (intro cQ hQ; cases hQ; done)))); (case hm => first | decide | (simp; done)))
  | (apply st_cod; (case hc => (simp only [go_sem, *] <;> rfl)); (case hl => (simp only [go_sem, *] <;> rfl)); (case hn => (simp only [go_sem, *] <;> rfl)); (case hp => first | exact p3 | (have hXz := p3; simp only [go_sem, *] at hXz; exact hXz)); (case hd => first | exact sps_dry _ | exact ints_dry _ | (repeat' (first | exact Dry.v _ | exact Dry.any | exact Dry.nils | exact Dry.slE | refine Dry.agg ?_ | refine Dry.tup ?_ | (refine List.forall_mem_cons.2 (And.intro ?_ ?_)) | (intro cQ hQ; cases hQ; done)))); (case hm => first | decide | (simp; done)))
  | (apply Awp.reg; (case hn => (simp only [List.length_cons, List.length_nil, Nat.reduceAdd] <;> rfl)))
  | (refine Awp.skip ?_; try simp only [go_sem, *])
  | refine Awp.block ?_
  | (apply Awp.cond; (case hc => (simp only [go_sem, *] <;> rfl)); all_goals (intro hg; (try simp only [Bool.not_true, Bool.not_false, reduceCtorEq] at hg)))
  | refine Awp.seq ?_)
    refine ⟨i + 1, by omega, by omega, ?_⟩
    rw [hst]
    (apply Ghost.mk [(2, 240), (3, 249), (4, 254)] []; (case hdead => rfl); (case hinj => rfl); (case hV => (simp only [go_sem, *]) <;> (repeat' (first | refine And.intro ?_ ?_ | exact View.int (by first | rfl | exact (stys_snoc _ _) | exact (ints_snoc _ _) | omega | (simp; done) | (rw [wrap_i64] <;> (try simp only [Int.natCast_add]) <;> omega) | (simp [*]; done)) | exact .bp rfl (by decide) | exact .own rfl (by decide)))); (case hB => (simp only [go_sem, *]) <;> (repeat' (first | refine And.intro ?_ ?_ | exact ⟨_, rfl, BView.boxF rfl⟩ | exact ⟨_, rfl, .rowE (by first | rfl | exact (stys_snoc _ _) | exact (ints_snoc _ _) | omega | (simp; done) | (rw [wrap_i64] <;> (try simp only [Int.natCast_add]) <;> omega) | (simp [*]; done))⟩))))
  ·have hlt' : ¬ (i : Int) < l.length := by omega
   have e1 : l.take i = l := List.take_of_length_le (by omega)
   have hnl := nearL_len l x
   have h2 := lowC_len l x
   have h3 := leftC_len l x
   rw [e1]
   unfold rsS boxZ
   repeat' (first
  | (apply Awp.sreg; (case hn => (simp only [List.length_cons, List.length_nil, Nat.reduceAdd] <;> rfl)))
  | (refine st_nil ?_)
  | (apply st_a; (case hc => rfl); (case he => (simp only [go_sem, *] <;> rfl)); (case hu => (simp only [updL_nil, updL_cons] <;> rfl)); (case hp => first | trivial))
  | (refine Awp.exit ?_; try simp only [go_sem, *])
  | refine Awp.block ?_
  | (apply Awp.cond; (case hc => (simp only [go_sem, *] <;> rfl)); all_goals (intro hg; (try simp only [Bool.not_true, Bool.not_false, reduceCtorEq] at hg)))
  | refine Awp.seq ?_)
   obtain ⟨N, hN⟩ : ∃ N, nearL l x = N := ⟨_, rfl⟩
   obtain ⟨A, hA⟩ : ∃ A, lowC l x = A := ⟨_, rfl⟩
   obtain ⟨C, hC⟩ : ∃ C, leftC l x = C := ⟨_, rfl⟩
   have hsp : spotE bs l x = match scanE (fun X Y => stayE bs N (x.at_ X Y) == 0) A C with
    | some (X, Y) => (x.at_ X Y, true)
    | none => (zeroSty, false) := by
    rw [← hN, ← hA, ← hC]; rfl
   rw [hsp]
   rw [hN] at hnl
   rw [hA] at h2
   rw [hC] at h3
   rw [hN, hA, hC]
   clear hsp hN hA hC e1 hlt hlt' hi
   refine Awp.loop (fun q : Nat × (Int × Int) => q.1 ≤ A.length ∧ ∀ j, j < q.1 → (C.find? fun X => stayE bs N (x.at_ X (A.getD j 0)) == 0) = none) 300
    (fun q => rkS bs N x A C q) (fun q => A.length - q.1) (0, (x.x, x.y)) ⟨Nat.zero_le _, fun j hj => by simp at hj⟩ ?_ ?_
   ·unfold rkS boxZ Sty.at_
    (apply Ghost.mk [] []; (case hdead => rfl); (case hinj => rfl); (case hV => (simp only [go_sem, *]) <;> (repeat' (first | refine And.intro ?_ ?_ | exact View.int (by first | rfl | omega | (simp; done) | (rw [wrap_i64] <;> (try simp only [Int.natCast_add]) <;> omega) | (simp [*]; done)) | exact .bp rfl (by decide) | exact .own rfl (by decide)))); (case hB => (simp only [go_sem, *]) <;> (repeat' (first | refine And.intro ?_ ?_ | exact ⟨_, rfl, BView.boxF rfl⟩ | exact ⟨_, rfl, .rowE (by first | rfl | omega | (simp; done) | (rw [wrap_i64] <;> (try simp only [Int.natCast_add]) <;> omega) | (simp [*]; done))⟩))))
   ·intro ⟨j, ⟨X0, Y0⟩⟩ ⟨hj, hn⟩
    dsimp only at hj hn
    by_cases hlt : j < A.length
    ·have hlt' : (j : Int) < A.length := by omega
     have hat := ints_at A j hlt
     unfold rkS boxZ
     repeat' (first
  | (apply Awp.sreg; (case hn => (simp only [List.length_cons, List.length_nil, Nat.reduceAdd] <;> rfl)))
  | (refine st_nil ?_)
  | (apply st_a; (case hc => rfl); (case he => (simp only [go_sem, *] <;> rfl)); (case hu => (simp only [updL_nil, updL_cons] <;> rfl)); (case hp => first | trivial))
  | (refine Awp.skip ?_; try simp only [go_sem, *])
  | refine Awp.block ?_
  | (apply Awp.cond; (case hc => (simp only [go_sem, *] <;> rfl)); all_goals (intro hg; (try simp only [Bool.not_true, Bool.not_false, reduceCtorEq] at hg)))
  | refine Awp.seq ?_)
     refine Awp.loop (fun q : Nat × (Int × Int) => q.1 ≤ C.length ∧ ∀ i, i < q.1 → (stayE bs N (x.at_ (C.getD i 0) (A.getD j 0)) == 0) = false) 400
      (fun q => riS bs N x A C j q) (fun q => C.length - q.1) (0, (X0, Y0)) ⟨Nat.zero_le _, fun i hi => by simp at hi⟩ ?_ ?_
     ·unfold riS boxZ
      (apply Ghost.mk [] []; (case hdead => rfl); (case hinj => rfl); (case hV => (simp only [go_sem, *]) <;> (repeat' (first | refine And.intro ?_ ?_ | exact View.int (by first | rfl | omega | (simp; done) | (rw [wrap_i64] <;> (try simp only [Int.natCast_add]) <;> omega) | (simp [*]; done)) | exact .bp rfl (by decide) | exact .own rfl (by decide)))); (case hB => (simp only [go_sem, *]) <;> (repeat' (first | refine And.intro ?_ ?_ | exact ⟨_, rfl, BView.boxF rfl⟩ | exact ⟨_, rfl, .rowE (by first | rfl | omega | (simp; done) | (rw [wrap_i64] <;> (try simp only [Int.natCast_add]) <;> omega) | (simp [*]; done))⟩))))
     ·intro ⟨k, ⟨X1, Y1⟩⟩ ⟨hk, hno⟩
      dsimp only at hk hno
      by_cases hkl : k < C.length
      ·have hkl' : (k : Int) < C.length := by omega
       have hat2 := ints_at C k hkl
       have c0 := rstay_ok bs N (x.at_ (C.getD k 0) (A.getD j 0)) (by omega) (by omega) hx
       cases hpb : stayE bs N (x.at_ (C.getD k 0) (A.getD j 0)) == 0
       ·have hnx : ∀ i, i < k + 1 → (stayE bs N (x.at_ (C.getD i 0) (A.getD j 0)) == 0) = false := ltSucc hno hpb
        generalize stayE bs N (x.at_ (C.getD k 0) (A.getD j 0)) = e at *
        generalize C.getD k 0 = X at *
        generalize A.getD j 0 = Y at *
        clear hno
        unfold riS boxZ Sty.at_ at *
        repeat' (first
  | (apply Awp.sreg; (case hn => (simp only [List.length_cons, List.length_nil, Nat.reduceAdd] <;> rfl)))
  | (apply Awp.sdraw; (case hn => (simp only [List.length_cons, List.length_nil, Nat.reduceAdd] <;> rfl)))
  | (refine st_nil ?_)
  | (apply st_a; (case hc => rfl); (case he => (simp only [go_sem, *] <;> rfl)); (case hu => (simp only [updL_nil, updL_cons] <;> rfl)); (case hp => first | trivial))
  | (apply st_cd; (case hc => (simp only [go_sem, *] <;> rfl)); (case hl => (simp only [go_sem, *] <;> rfl)); (case hn => (simp only [go_sem, *] <;> rfl)); (case hp => first | exact c0 | (have hXz := c0; simp only [go_sem, *] at hXz; exact hXz)); (case hd => first | exact .v _ | exact .any | exact .nils | (repeat' (first | exact Dry.v _ | exact Dry.any | exact Dry.nils | exact Dry.slE | refine Dry.agg ?_ | refine Dry.tup ?_ | (refine List.forall_mem_cons.2 (And.intro ?_ ?_)) | (intro cQ hQ; cases hQ; done)))); (case hm => first | decide | (simp; done)))
  | (apply Awp.reg; (case hn => (simp only [List.length_cons, List.length_nil, Nat.reduceAdd] <;> rfl)))
  | (refine Awp.skip ?_; try simp only [go_sem, *])
  | refine Awp.block ?_
  | (apply Awp.cond; (case hc => (simp only [go_sem, *] <;> rfl)); all_goals (intro hg; (try simp only [Bool.not_true, Bool.not_false, reduceCtorEq] at hg)))
  | refine Awp.seq ?_
  | (apply sl_a; (case hc => rfl); (case he => (simp only [go_sem, *] <;> rfl)); (case hu => (simp only [updL_nil, updL_cons] <;> rfl)); (case hl => (simp only [List.map_cons, List.map_nil] <;> rfl)); (case hp => first | trivial | omega))
  | (refine sl_nil (And.intro (by first | exact drawOk_of (by decide +kernel) | (simp only [List.map_cons, List.map_nil]; exact drawOk_of (by decide +kernel)) | decide) ?_)))
        refine ⟨(k + 1, (X, Y)), ⟨by dsimp only; omega, hnx⟩, by dsimp only; omega, ?_⟩
        (apply Ghost.mk [] []; (case hdead => rfl); (case hinj => rfl); (case hV => (simp only [go_sem, *]) <;> (repeat' (first | refine And.intro ?_ ?_ | exact View.int (by first | rfl | omega | (simp; done) | (rw [wrap_i64] <;> (try simp only [Int.natCast_add]) <;> omega) | (simp [*]; done)) | exact .bp rfl (by decide) | exact .own rfl (by decide)))); (case hB => (simp only [go_sem, *]) <;> (repeat' (first | refine And.intro ?_ ?_ | exact ⟨_, rfl, BView.boxF rfl⟩ | exact ⟨_, rfl, .rowE (by first | rfl | omega | (simp; done) | (rw [wrap_i64] <;> (try simp only [Int.natCast_add]) <;> omega) | (simp [*]; done))⟩))))
       ·have hr := scan_hit (P := fun X Y => stayE bs N (x.at_ X Y) == 0) hlt hn (find_first (P := fun X => stayE bs N (x.at_ X (A.getD j 0)) == 0) hkl hpb hno)
        rw [hr]
        dsimp only
        clear hr hn hno
        generalize stayE bs N (x.at_ (C.getD k 0) (A.getD j 0)) = e at *
        generalize C.getD k 0 = X at *
        generalize A.getD j 0 = Y at *
        unfold riS boxZ Sty.at_ at *
        repeat' (first
  | (apply Awp.sreg; (case hn => (simp only [List.length_cons, List.length_nil, Nat.reduceAdd] <;> rfl)))
  | (apply Awp.sdraw; (case hn => (simp only [List.length_cons, List.length_nil, Nat.reduceAdd] <;> rfl)))
  | (refine st_nil ?_)
  | (apply st_a; (case hc => rfl); (case he => (simp only [go_sem, *] <;> rfl)); (case hu => (simp only [updL_nil, updL_cons] <;> rfl)); (case hp => first | trivial))
  | (apply st_cd; (case hc => (simp only [go_sem, *] <;> rfl)); (case hl => (simp only [go_sem, *] <;> rfl)); (case hn => (simp only [go_sem, *] <;> rfl)); (case hp => first | exact c0 | (have hXz := c0; simp only [go_sem, *] at hXz; exact hXz)); (case hd => first | exact .v _ | exact .any | exact .nils | (repeat' (first | exact Dry.v _ | exact Dry.any | exact Dry.nils | exact Dry.slE | refine Dry.agg ?_ | refine Dry.tup ?_ | (refine List.forall_mem_cons.2 (And.intro ?_ ?_)) | (intro cQ hQ; cases hQ; done)))); (case hm => first | decide | (simp; done)))
  | (refine Awp.ret ?_; try simp only [go_sem, *])
  | (refine Awp.skip ?_; try simp only [go_sem, *])
  | refine Awp.block ?_
  | (apply Awp.cond; (case hc => (simp only [go_sem, *] <;> rfl)); all_goals (intro hg; (try simp only [Bool.not_true, Bool.not_false, reduceCtorEq] at hg)))
  | refine Awp.seq ?_
  | (apply sl_a; (case hc => rfl); (case he => (simp only [go_sem, *] <;> rfl)); (case hu => (simp only [updL_nil, updL_cons] <;> rfl)); (case hl => (simp only [List.map_cons, List.map_nil] <;> rfl)); (case hp => first | trivial | omega))
  | (refine sl_nil (And.intro (by first | exact drawOk_of (by decide +kernel) | (simp only [List.map_cons, List.map_nil]; exact drawOk_of (by decide +kernel)) | decide) ?_)))
        all_goals repeat' (first | exact Lower.bool (by first | rfl | (simp only [true_and, Bool.true_and, Bool.false_and, Bool.and_true, Bool.and_false, Bool.true_or, Bool.false_or, reduceIte, Bool.false_eq_true, *]; done) | (simp only [true_and, reduceIte, Bool.false_eq_true, *] <;> rfl) | (simp [true_and]; done) | (simp_all [true_and]; done) | omega) | exact Lower.int (by first | rfl | (simp only [true_and, Bool.true_and, Bool.false_and, Bool.and_true, Bool.and_false, Bool.true_or, Bool.false_or, reduceIte, Bool.false_eq_true, *]; done) | (simp only [true_and, reduceIte, Bool.false_eq_true, *] <;> rfl) | (simp [true_and]; done) | (simp_all [true_and]; done) | omega) | exact Lower.str (by first | rfl | (simp only [true_and, Bool.true_and, Bool.false_and, Bool.and_true, Bool.and_false, Bool.true_or, Bool.false_or, reduceIte, Bool.false_eq_true, *]; done) | (simp only [true_and, reduceIte, Bool.false_eq_true, *] <;> rfl) | (simp [true_and]; done) | (simp_all [true_and]; done) | omega) | refine Lower.aggF ?_ | refine Lower.tupF ?_ | refine All2.cons ?_ ?_ | exact All2.nil)
      ·have hkl' : ¬ (k : Int) < C.length := by omega
       have hne := ltSucc hn (find_no (P := fun X => stayE bs N (x.at_ X (A.getD j 0)) == 0) fun i hi => hno i (by omega))
       clear hn hno hat
       unfold riS boxZ
       repeat' (first
  | (apply Awp.sreg; (case hn => (simp only [List.length_cons, List.length_nil, Nat.reduceAdd] <;> rfl)))
  | (refine st_nil ?_)
  | (apply st_a; (case hc => rfl); (case he => (simp only [go_sem, *] <;> rfl)); (case hu => (simp only [updL_nil, updL_cons] <;> rfl)); (case hp => first | trivial))
  | (apply Awp.reg; (case hn => (simp only [List.length_cons, List.length_nil, Nat.reduceAdd] <;> rfl)))
  | (refine Awp.exit ?_; try simp only [go_sem, *])
  | (apply Awp.cond; (case hc => (simp only [go_sem, *] <;> rfl)); all_goals (intro hg; (try simp only [Bool.not_true, Bool.not_false, reduceCtorEq] at hg)))
  | refine Awp.seq ?_)
       refine ⟨(j + 1, (X1, Y1)), ⟨by dsimp only; omega, hne⟩, by dsimp only; omega, ?_⟩
       unfold Sty.at_
       (apply Ghost.mk [] []; (case hdead => rfl); (case hinj => rfl); (case hV => (simp only [go_sem, *]) <;> (repeat' (first | refine And.intro ?_ ?_ | exact View.int (by first | rfl | omega | (simp; done) | (rw [wrap_i64] <;> (try simp only [Int.natCast_add]) <;> omega) | (simp [*]; done)) | exact .bp rfl (by decide) | exact .own rfl (by decide)))); (case hB => (simp only [go_sem, *]) <;> (repeat' (first | refine And.intro ?_ ?_ | exact ⟨_, rfl, BView.boxF rfl⟩ | exact ⟨_, rfl, .rowE (by first | rfl | omega | (simp; done) | (rw [wrap_i64] <;> (try simp only [Int.natCast_add]) <;> omega) | (simp [*]; done))⟩))))
    ·have hlt' : ¬ (j : Int) < A.length := by omega
     have hr := scan_no (P := fun X Y => stayE bs N (x.at_ X Y) == 0) (Nat.le_of_not_lt hlt) hn
     rw [hr]
     dsimp only
     clear hn hr
     unfold rkS boxZ
     repeat' (first
  | (apply Awp.sreg; (case hn => (simp only [List.length_cons, List.length_nil, Nat.reduceAdd] <;> rfl)))
  | (refine st_nil ?_)
  | (apply st_a; (case hc => rfl); (case he => (simp only [go_sem, *] <;> rfl)); (case hu => (simp only [updL_nil, updL_cons] <;> rfl)); (case hp => first | trivial))
  | (refine Awp.ret ?_; try simp only [go_sem, *])
  | (refine Awp.exit ?_; try simp only [go_sem, *])
  | (apply Awp.cond; (case hc => (simp only [go_sem, *] <;> rfl)); all_goals (intro hg; (try simp only [Bool.not_true, Bool.not_false, reduceCtorEq] at hg)))
  | refine Awp.seq ?_)
     all_goals repeat' (first | exact Lower.bool (by first | rfl | (simp only [zeroSty, Bool.true_and, Bool.false_and, Bool.and_true, Bool.and_false, Bool.true_or, Bool.false_or, reduceIte, Bool.false_eq_true, *]; done) | (simp only [zeroSty, reduceIte, Bool.false_eq_true, *] <;> rfl) | (simp [zeroSty]; done) | (simp_all [zeroSty]; done) | omega) | exact Lower.int (by first | rfl | (simp only [zeroSty, Bool.true_and, Bool.false_and, Bool.and_true, Bool.and_false, Bool.true_or, Bool.false_or, reduceIte, Bool.false_eq_true, *]; done) | (simp only [zeroSty, reduceIte, Bool.false_eq_true, *] <;> rfl) | (simp [zeroSty]; done) | (simp_all [zeroSty]; done) | omega) | exact Lower.str (by first | rfl | (simp only [zeroSty, Bool.true_and, Bool.false_and, Bool.and_true, Bool.and_false, Bool.true_or, Bool.false_or, reduceIte, Bool.false_eq_true, *]; done) | (simp only [zeroSty, reduceIte, Bool.false_eq_true, *] <;> rfl) | (simp [zeroSty]; done) | (simp_all [zeroSty]; done) | omega) | refine Lower.aggF ?_ | refine Lower.tupF ?_ | refine All2.cons ?_ ?_ | exact All2.nil)
theorem startsZ_len (l : List Sty) (fr : Int) : (startsZ l fr).length ≤ l.length + 1 := by
 unfold startsZ
 refine Nat.le_trans (compact_len _) ?_
 rw [sortI_len]
 exact endsL_len l fr
theorem startsZ_step (l : List Sty) (fr : Int) (i : Nat) (h : i < l.length) (hp : decide (fr < (l.getD i zeroSty).b) = true) : putZ (startsZ (l.take i) fr) (l.getD i zeroSty).b = startsZ (l.take (i + 1)) fr := by
 refine (put_step (endsL (l.take i) fr) _).trans ?_
 show _ = Lib.compact (sortZ _)
 rw [endsL_step l fr i h, if_pos hp]
theorem startsZ_same (l : List Sty) (fr : Int) (i : Nat) (h : i < l.length) (hp : decide (fr < (l.getD i zeroSty).b) = false) : startsZ (l.take (i + 1)) fr = startsZ (l.take i) fr := by
 unfold startsZ
 rw [endsL_step l fr i h, if_neg (by rw [hp]; simp), List.append_nil]
def rstart (bs : List By) (l : List Sty) (x : Sty) (h : Int) (S : List Int) (i : Nat) : AState :=
 mkS [(0, .sl (bys bs)), (1, .sl (stys l)), (3, .v (.int .i64 h)), (6, .bp 0 0), (8, .bp 1 0), (11, .own 2), (12, .v (.int .i64 i))] [(0, .box x.cells), (1, .box boxZ), (2, .row (ints S) 1 3)]
theorem fitR_in (x : Sty) (h : Int) : (!(decide (1 ≤ x.len) && decide (x.len ≤ 524288)) || !(decide (1 ≤ x.wid) && decide (x.wid ≤ 524288)) || !(decide (1 ≤ h) && decide (h ≤ 1048576)) || !(decide (0 ≤ x.a) && decide (x.a ≤ 1048576))) = fitR x h := by
 unfold fitR sideB
 rw [Bool.eq_iff_iff]
 simp only [Bool.or_eq_true, Bool.not_eq_true', Bool.and_eq_false_iff, decide_eq_false_iff_not, decide_eq_true_eq]
 omega
theorem rfit_ok (bs : List By) (l : List Sty) (x : Sty) (h : Int) (hb : bs.length < 90000) (hl : l.length < 90000) (hx : x.item.size < 1000000) (hs : ∀ i, i < l.length → (l.getD i zeroSty).item.size < 1000000) : Pure Tryz.prog 32 [.sl (bys bs), .sl (stys l), x.av, .v (.int .i64 h)] (.tup [(fitE bs l x h).1.av, .v (.int .i64 (fitE bs l x h).2)]) := by
 have c0 := rcheck_ok bs l (by omega) (by omega) hs
 have c1 := risid_ok x.item hx
 unfold fitE
 by_cases hC : checkE bs l = 0
 case neg =>
  have hC' : (checkE bs l != 0) = true := by simpa using hC
  rw [if_pos hC']
  generalize checkE bs l = e at *
  refine fn_pure Tryz.F32 (Nat.le_of_ble_eq_true rfl) ?_; unfold Tryz.ac32 AR AM AO
  repeat' (first
  | (apply Awp.sreg; (case hn => (simp only [List.length_cons, List.length_nil, Nat.reduceAdd] <;> rfl)))
  | (refine st_nil ?_)
  | (apply st_a; (case hc => rfl); (case he => (simp only [go_sem, *] <;> rfl)); (case hu => (simp only [updL_nil, updL_cons] <;> rfl)); (case hp => first | trivial))
  | (apply st_c; (case hc => (simp only [go_sem, *] <;> rfl)); (case hl => (simp only [go_sem, *] <;> rfl)); (case hn => (simp only [go_sem, *] <;> rfl)); (case hp => first | exact c0 | (have hXz := c0; simp only [go_sem, *] at hXz; exact hXz)))
  | (refine Awp.ret ?_; try simp only [go_sem, *])
  | (apply Awp.cond; (case hc => (simp only [go_sem, *] <;> rfl)); all_goals (intro hg; (try simp only [Bool.not_true, Bool.not_false, reduceCtorEq] at hg)))
  | refine Awp.seq ?_)
  all_goals repeat' (first | exact Lower.int (by first | rfl | (simp only [zeroSty, Bool.true_and, Bool.false_and, Bool.and_true, Bool.and_false, Bool.true_or, Bool.false_or, reduceIte, Bool.false_eq_true, *]; done) | (simp only [zeroSty, reduceIte, Bool.false_eq_true, *] <;> rfl) | (simp [zeroSty]; done) | (simp_all [zeroSty]; done) | omega) | exact Lower.str (by first | rfl | (simp only [zeroSty, Bool.true_and, Bool.false_and, Bool.and_true, Bool.and_false, Bool.true_or, Bool.false_or, reduceIte, Bool.false_eq_true, *]; done) | (simp only [zeroSty, reduceIte, Bool.false_eq_true, *] <;> rfl) | (simp [zeroSty]; done) | (simp_all [zeroSty]; done) | omega) | refine Lower.aggF ?_ | refine Lower.tupF ?_ | refine All2.cons ?_ ?_ | exact All2.nil)
 rw [if_neg (by rw [hC]; simp)]
 rw [hC] at c0
 cases h1 : idB x.item
 ·rw [if_pos (by simp)]
  refine fn_pure Tryz.F32 (Nat.le_of_ble_eq_true rfl) ?_; unfold Tryz.ac32 AR AM AO
  repeat' (first
  | (apply Awp.sreg; (case hn => (simp only [List.length_cons, List.length_nil, Nat.reduceAdd] <;> rfl)))
  | (refine st_nil ?_)
  | (apply st_a; (case hc => rfl); (case he => (simp only [go_sem, *] <;> rfl)); (case hu => (simp only [updL_nil, updL_cons] <;> rfl)); (case hp => first | trivial))
  | (apply st_c; (case hc => (simp only [go_sem, *] <;> rfl)); (case hl => (simp only [go_sem, *] <;> rfl)); (case hn => (simp only [go_sem, *] <;> rfl)); (case hp => first | exact c0 | (have hXz := c0; simp only [go_sem, *] at hXz; exact hXz)))
  | (apply st_c; (case hc => (simp only [go_sem, *] <;> rfl)); (case hl => (simp only [go_sem, *] <;> rfl)); (case hn => (simp only [go_sem, *] <;> rfl)); (case hp => first | exact c1 | (have hXz := c1; simp only [go_sem, *] at hXz; exact hXz)))
  | (refine Awp.ret ?_; try simp only [go_sem, *])
  | (refine Awp.skip ?_; try simp only [go_sem, *])
  | (apply Awp.cond; (case hc => (simp only [go_sem, *] <;> rfl)); all_goals (intro hg; (try simp only [Bool.not_true, Bool.not_false, reduceCtorEq] at hg)))
  | refine Awp.seq ?_)
  all_goals repeat' (first | exact Lower.int (by first | rfl | (simp only [zeroSty, Bool.true_and, Bool.false_and, Bool.and_true, Bool.and_false, Bool.true_or, Bool.false_or, reduceIte, Bool.false_eq_true, *]; done) | (simp only [zeroSty, reduceIte, Bool.false_eq_true, *] <;> rfl) | (simp [zeroSty]; done) | (simp_all [zeroSty]; done) | omega) | exact Lower.str (by first | rfl | (simp only [zeroSty, Bool.true_and, Bool.false_and, Bool.and_true, Bool.and_false, Bool.true_or, Bool.false_or, reduceIte, Bool.false_eq_true, *]; done) | (simp only [zeroSty, reduceIte, Bool.false_eq_true, *] <;> rfl) | (simp [zeroSty]; done) | (simp_all [zeroSty]; done) | omega) | refine Lower.aggF ?_ | refine Lower.tupF ?_ | refine All2.cons ?_ ?_ | exact All2.nil)
 rw [if_neg (by simp)]
 rw [h1] at c1
 cases h2 : fitR x h
 case true =>
  rw [if_pos rfl]
  have hR := fitR_in x h
  rw [h2] at hR
  clear h2
  refine fn_pure Tryz.F32 (Nat.le_of_ble_eq_true rfl) ?_; unfold Tryz.ac32 AR AM AO
  repeat' (first
  | (apply Awp.sreg; (case hn => (simp only [List.length_cons, List.length_nil, Nat.reduceAdd] <;> rfl)))
  | (refine st_nil ?_)
  | (apply st_a; (case hc => rfl); (case he => (simp only [go_sem, *] <;> rfl)); (case hu => (simp only [updL_nil, updL_cons] <;> rfl)); (case hp => first | trivial))
  | (apply st_m; (case hc => rfl); (case hg => (simp only [go_sem, *] <;> rfl)); (case he => (intro hQz; (try simp only [wantB_t, wantB_f, Bool.and_eq_true, Bool.not_eq_true', Bool.not_true, Bool.not_false, and_true, true_and] at hQz); simp only [go_sem, *] <;> rfl)); (case hp => (intro hQz; (try simp only [wantB_t, wantB_f, Bool.and_eq_true, Bool.not_eq_true', Bool.or_eq_false_iff, decide_eq_true_eq, decide_eq_false_iff_not, beq_iff_eq, beq_eq_false_iff_ne, bne_iff_ne, bne_eq_false_iff_eq, Int.not_lt, Int.not_le, Int.ofNat_lt, Int.ofNat_le] at hQz); first | trivial)))
  | (apply st_c; (case hc => (simp only [go_sem, *] <;> rfl)); (case hl => (simp only [go_sem, *] <;> rfl)); (case hn => (simp only [go_sem, *] <;> rfl)); (case hp => first | exact c0 | (have hXz := c0; simp only [go_sem, *] at hXz; exact hXz)))
  | (apply st_c; (case hc => (simp only [go_sem, *] <;> rfl)); (case hl => (simp only [go_sem, *] <;> rfl)); (case hn => (simp only [go_sem, *] <;> rfl)); (case hp => first | exact c1 | (have hXz := c1; simp only [go_sem, *] at hXz; exact hXz)))
  | (apply st_mc; (case hop => rfl); (case hg => (simp only [go_sem, *] <;> rfl)); (case hc => (intro hQz; (try simp only [wantB_t, wantB_f, Bool.and_eq_true, Bool.not_eq_true', Bool.not_true, Bool.not_false, and_true, true_and] at hQz); simp only [go_sem, *] <;> rfl)); (case hl => (intro hQz; (try simp only [wantB_t, wantB_f, Bool.and_eq_true, Bool.not_eq_true', Bool.not_true, Bool.not_false, and_true, true_and] at hQz); simp only [go_sem, *] <;> rfl)); (case hn => (intro hQz; (try simp only [wantB_t, wantB_f, Bool.and_eq_true, Bool.not_eq_true', Bool.not_true, Bool.not_false, and_true, true_and] at hQz); simp only [go_sem, *] <;> rfl)); (case hp => intro hQz; first | exact in_ok _ _ _ | (have hXz := in_ok _ _ _; simp only [go_sem, *] at hXz; exact hXz)))
  | (apply st_c; (case hc => (simp only [go_sem, *] <;> rfl)); (case hl => (simp only [go_sem, *] <;> rfl)); (case hn => (simp only [go_sem, *] <;> rfl)); (case hp => first | exact in_ok _ _ _ | (have hXz := in_ok _ _ _; simp only [go_sem, *] at hXz; exact hXz)))
  | (refine Awp.ret ?_; try simp only [go_sem, *])
  | (refine Awp.skip ?_; try simp only [go_sem, *])
  | (apply Awp.cond; (case hc => (simp only [go_sem, *] <;> rfl)); all_goals (intro hg; (try simp only [Bool.not_true, Bool.not_false, reduceCtorEq] at hg)))
  | refine Awp.seq ?_)
  all_goals repeat' (first | exact Lower.int (by first | rfl | (simp only [zeroSty, Bool.true_and, Bool.false_and, Bool.and_true, Bool.and_false, Bool.true_or, Bool.false_or, reduceIte, Bool.false_eq_true, *]; done) | (simp only [zeroSty, reduceIte, Bool.false_eq_true, *] <;> rfl) | (simp [zeroSty]; done) | (simp_all [zeroSty]; done) | omega) | exact Lower.str (by first | rfl | (simp only [zeroSty, Bool.true_and, Bool.false_and, Bool.and_true, Bool.and_false, Bool.true_or, Bool.false_or, reduceIte, Bool.false_eq_true, *]; done) | (simp only [zeroSty, reduceIte, Bool.false_eq_true, *] <;> rfl) | (simp [zeroSty]; done) | (simp_all [zeroSty]; done) | omega) | refine Lower.aggF ?_ | refine Lower.tupF ?_ | refine All2.cons ?_ ?_ | exact All2.nil)
 rw [if_neg (by simp)]
 have hR := fitR_in x h
 rw [h2] at hR
 clear h2
 by_cases h3 : (128 : Int) ≤ l.length
 ·rw [if_pos (by simpa using h3)]
  refine fn_pure Tryz.F32 (Nat.le_of_ble_eq_true rfl) ?_; unfold Tryz.ac32 AR AM AO
  repeat' (first
  | (apply Awp.sreg; (case hn => (simp only [List.length_cons, List.length_nil, Nat.reduceAdd] <;> rfl)))
  | (refine st_nil ?_)
  | (apply st_a; (case hc => rfl); (case he => (simp only [go_sem, *] <;> rfl)); (case hu => (simp only [updL_nil, updL_cons] <;> rfl)); (case hp => first | trivial))
  | (apply st_m; (case hc => rfl); (case hg => (simp only [go_sem, *] <;> rfl)); (case he => (intro hQz; (try simp only [wantB_t, wantB_f, Bool.and_eq_true, Bool.not_eq_true', Bool.not_true, Bool.not_false, and_true, true_and] at hQz); simp only [go_sem, *] <;> rfl)); (case hp => (intro hQz; (try simp only [wantB_t, wantB_f, Bool.and_eq_true, Bool.not_eq_true', Bool.or_eq_false_iff, decide_eq_true_eq, decide_eq_false_iff_not, beq_iff_eq, beq_eq_false_iff_ne, bne_iff_ne, bne_eq_false_iff_eq, Int.not_lt, Int.not_le, Int.ofNat_lt, Int.ofNat_le] at hQz); first | trivial)))
  | (apply st_c; (case hc => (simp only [go_sem, *] <;> rfl)); (case hl => (simp only [go_sem, *] <;> rfl)); (case hn => (simp only [go_sem, *] <;> rfl)); (case hp => first | exact c0 | (have hXz := c0; simp only [go_sem, *] at hXz; exact hXz)))
  | (apply st_c; (case hc => (simp only [go_sem, *] <;> rfl)); (case hl => (simp only [go_sem, *] <;> rfl)); (case hn => (simp only [go_sem, *] <;> rfl)); (case hp => first | exact c1 | (have hXz := c1; simp only [go_sem, *] at hXz; exact hXz)))
  | (apply st_mc; (case hop => rfl); (case hg => (simp only [go_sem, *] <;> rfl)); (case hc => (intro hQz; (try simp only [wantB_t, wantB_f, Bool.and_eq_true, Bool.not_eq_true', Bool.not_true, Bool.not_false, and_true, true_and] at hQz); simp only [go_sem, *] <;> rfl)); (case hl => (intro hQz; (try simp only [wantB_t, wantB_f, Bool.and_eq_true, Bool.not_eq_true', Bool.not_true, Bool.not_false, and_true, true_and] at hQz); simp only [go_sem, *] <;> rfl)); (case hn => (intro hQz; (try simp only [wantB_t, wantB_f, Bool.and_eq_true, Bool.not_eq_true', Bool.not_true, Bool.not_false, and_true, true_and] at hQz); simp only [go_sem, *] <;> rfl)); (case hp => intro hQz; first | exact in_ok _ _ _ | (have hXz := in_ok _ _ _; simp only [go_sem, *] at hXz; exact hXz)))
  | (apply st_c; (case hc => (simp only [go_sem, *] <;> rfl)); (case hl => (simp only [go_sem, *] <;> rfl)); (case hn => (simp only [go_sem, *] <;> rfl)); (case hp => first | exact in_ok _ _ _ | (have hXz := in_ok _ _ _; simp only [go_sem, *] at hXz; exact hXz)))
  | (refine Awp.ret ?_; try simp only [go_sem, *])
  | (refine Awp.skip ?_; try simp only [go_sem, *])
  | (apply Awp.cond; (case hc => (simp only [go_sem, *] <;> rfl)); all_goals (intro hg; (try simp only [Bool.not_true, Bool.not_false, reduceCtorEq] at hg)))
  | refine Awp.seq ?_)
  all_goals repeat' (first | exact Lower.int (by first | rfl | (simp only [zeroSty, Bool.true_and, Bool.false_and, Bool.and_true, Bool.and_false, Bool.true_or, Bool.false_or, reduceIte, Bool.false_eq_true, *]; done) | (simp only [zeroSty, reduceIte, Bool.false_eq_true, *] <;> rfl) | (simp [zeroSty]; done) | (simp_all [zeroSty]; done) | omega) | exact Lower.str (by first | rfl | (simp only [zeroSty, Bool.true_and, Bool.false_and, Bool.and_true, Bool.and_false, Bool.true_or, Bool.false_or, reduceIte, Bool.false_eq_true, *]; done) | (simp only [zeroSty, reduceIte, Bool.false_eq_true, *] <;> rfl) | (simp [zeroSty]; done) | (simp_all [zeroSty]; done) | omega) | refine Lower.aggF ?_ | refine Lower.tupF ?_ | refine All2.cons ?_ ?_ | exact All2.nil)
 rw [if_neg (by simpa using h3)]
 refine fn_pure Tryz.F32 (Nat.le_of_ble_eq_true rfl) ?_; unfold Tryz.ac32 AR AM AO
 repeat' (first
  | (apply Awp.sreg; (case hn => (simp only [List.length_cons, List.length_nil, Nat.reduceAdd] <;> rfl)))
  | (refine st_nil ?_)
  | (apply st_a; (case hc => rfl); (case he => (simp only [go_sem, *] <;> rfl)); (case hu => (simp only [updL_nil, updL_cons] <;> rfl)); (case hp => first | trivial | (simp; done)))
  | (apply st_m; (case hc => rfl); (case hg => (simp only [go_sem, *] <;> rfl)); (case he => (intro hQz; (try simp only [wantB_t, wantB_f, Bool.and_eq_true, Bool.not_eq_true', Bool.not_true, Bool.not_false, and_true, true_and] at hQz); simp only [go_sem, *] <;> rfl)); (case hp => (intro hQz; (try simp only [wantB_t, wantB_f, Bool.and_eq_true, Bool.not_eq_true', Bool.or_eq_false_iff, decide_eq_true_eq, decide_eq_false_iff_not, beq_iff_eq, beq_eq_false_iff_ne, bne_iff_ne, bne_eq_false_iff_eq, Int.not_lt, Int.not_le, Int.ofNat_lt, Int.ofNat_le] at hQz); first | trivial)))
  | (apply st_c; (case hc => (simp only [go_sem, *] <;> rfl)); (case hl => (simp only [go_sem, *] <;> rfl)); (case hn => (simp only [go_sem, *] <;> rfl)); (case hp => first | exact c0 | (have hXz := c0; simp only [go_sem, *] at hXz; exact hXz)))
  | (apply st_c; (case hc => (simp only [go_sem, *] <;> rfl)); (case hl => (simp only [go_sem, *] <;> rfl)); (case hn => (simp only [go_sem, *] <;> rfl)); (case hp => first | exact c1 | (have hXz := c1; simp only [go_sem, *] at hXz; exact hXz)))
  | (apply st_mc; (case hop => rfl); (case hg => (simp only [go_sem, *] <;> rfl)); (case hc => (intro hQz; (try simp only [wantB_t, wantB_f, Bool.and_eq_true, Bool.not_eq_true', Bool.not_true, Bool.not_false, and_true, true_and] at hQz); simp only [go_sem, *] <;> rfl)); (case hl => (intro hQz; (try simp only [wantB_t, wantB_f, Bool.and_eq_true, Bool.not_eq_true', Bool.not_true, Bool.not_false, and_true, true_and] at hQz); simp only [go_sem, *] <;> rfl)); (case hn => (intro hQz; (try simp only [wantB_t, wantB_f, Bool.and_eq_true, Bool.not_eq_true', Bool.not_true, Bool.not_false, and_true, true_and] at hQz); simp only [go_sem, *] <;> rfl)); (case hp => intro hQz; first | exact in_ok _ _ _ | (have hXz := in_ok _ _ _; simp only [go_sem, *] at hXz; exact hXz)))
  | (apply st_c; (case hc => (simp only [go_sem, *] <;> rfl)); (case hl => (simp only [go_sem, *] <;> rfl)); (case hn => (simp only [go_sem, *] <;> rfl)); (case hp => first | exact in_ok _ _ _ | (have hXz := in_ok _ _ _; simp only [go_sem, *] at hXz; exact hXz)))
  | (refine Awp.skip ?_; try simp only [go_sem, *])
  | refine Awp.block ?_
  | (apply Awp.cond; (case hc => (simp only [go_sem, *] <;> rfl)); all_goals (intro hg; (try simp only [Bool.not_true, Bool.not_false, reduceCtorEq] at hg)))
  | refine Awp.seq ?_)
 clear c0 c1 h1 hR hC
 refine Awp.loop (fun i : Nat => i ≤ l.length) 140 (fun i => rstart bs l x h (startsZ (l.take i) x.a) i) (fun i => l.length - i) 0 (by omega) ?_ ?_
 ·have e1 : startsZ (l.take 0) x.a = [x.a] := asc_ext (compact_sorted (sortZ [x.a]) (sortZ_asc _)).1 (by simp) fun y => ((compact_sorted (sortZ [x.a]) (sortZ_asc _)).2 y).trans (mem_sortZ _ _)
  have e2 := ints_one1 x.a
  rw [e1]
  unfold rstart boxZ
  (apply Ghost.mk [(2, 41)] []; (case hdead => rfl); (case hinj => rfl); (case hV => (simp only [go_sem, *]) <;> (repeat' (first | refine And.intro ?_ ?_ | exact View.int (by first | rfl | omega | (simp; done) | (rw [wrap_i64] <;> (try simp only [Int.natCast_add]) <;> omega) | (simp [*]; done)) | exact .bp rfl (by decide) | exact .own rfl (by decide)))); (case hB => (simp only [go_sem, *]) <;> (repeat' (first | refine And.intro ?_ ?_ | exact ⟨_, rfl, BView.boxF rfl⟩ | exact ⟨_, rfl, .rowE (by first | rfl | omega | (simp; done) | (rw [wrap_i64] <;> (try simp only [Int.natCast_add]) <;> omega) | (simp [*]; done))⟩))))
 ·intro i hi
  by_cases hlt : i < l.length
  ·have hlt' : (i : Int) < l.length := by omega
   have hat := stys_at l i hlt
   have hz : ((l.getD i zeroSty).cells).length = 8 := rfl
   have hln := startsZ_len (l.take i) x.a
   have htl : (l.take i).length = i := List.length_take_of_le hi
   cases hB : decide (x.a < (l.getD i zeroSty).b)
   ·have e3 := startsZ_same l x.a i hlt hB
    unfold rstart boxZ
    repeat' (first
  | (apply Awp.sreg; (case hn => (simp only [List.length_cons, List.length_nil, Nat.reduceAdd] <;> rfl)))
  | (apply Awp.sdraw; (case hn => (simp only [List.length_cons, List.length_nil, Nat.reduceAdd] <;> rfl)))
  | (refine st_nil ?_)
  | (apply st_a; (case hc => rfl); (case he => (simp only [go_sem, *] <;> rfl)); (case hu => (simp only [updL_nil, updL_cons] <;> rfl)); (case hp => first | trivial))
  | (apply Awp.reg; (case hn => (simp only [List.length_cons, List.length_nil, Nat.reduceAdd] <;> rfl)))
  | (refine Awp.skip ?_; try simp only [go_sem, *])
  | refine Awp.block ?_
  | (apply Awp.cond; (case hc => (simp only [go_sem, *] <;> rfl)); all_goals (intro hg; (try simp only [Bool.not_true, Bool.not_false, reduceCtorEq] at hg)))
  | refine Awp.seq ?_
  | (apply sl_a; (case hc => rfl); (case he => (simp only [go_sem, *] <;> rfl)); (case hu => (simp only [updL_nil, updL_cons] <;> rfl)); (case hl => (simp only [List.map_cons, List.map_nil] <;> rfl)); (case hp => first | trivial | omega))
  | (refine sl_nil (And.intro (by first | exact drawOk_of (by decide +kernel) | (simp only [List.map_cons, List.map_nil]; exact drawOk_of (by decide +kernel)) | decide) ?_)))
    refine ⟨i + 1, by omega, by omega, ?_⟩
    rw [e3]
    (apply Ghost.mk [] []; (case hdead => rfl); (case hinj => rfl); (case hV => (simp only [go_sem, *]) <;> (repeat' (first | refine And.intro ?_ ?_ | exact View.int (by first | rfl | omega | (simp; done) | (rw [wrap_i64] <;> (try simp only [Int.natCast_add]) <;> omega) | (simp [*]; done)) | exact .bp rfl (by decide) | exact .own rfl (by decide)))); (case hB => (simp only [go_sem, *]) <;> (repeat' (first | refine And.intro ?_ ?_ | exact ⟨_, rfl, BView.boxF rfl⟩ | exact ⟨_, rfl, .rowE (by first | rfl | omega | (simp; done) | (rw [wrap_i64] <;> (try simp only [Int.natCast_add]) <;> omega) | (simp [*]; done))⟩))))
   ·have p2 := put_ok (startsZ (l.take i) x.a) (l.getD i zeroSty).b (by omega)
    rw [startsZ_step l x.a i hlt hB] at p2
    unfold rstart boxZ
    repeat' (first
  | (apply Awp.sreg; (case hn => (simp only [List.length_cons, List.length_nil, Nat.reduceAdd] <;> rfl)))
  | (apply Awp.sdraw; (case hn => (simp only [List.length_cons, List.length_nil, Nat.reduceAdd] <;> rfl)))
  | (refine st_nil ?_)
  | (apply st_a; (case hc => rfl); (case he => (simp only [go_sem, *] <;> rfl)); (case hu => (simp only [updL_nil, updL_cons] <;> rfl)); (case hp => first | trivial | omega))
  | (apply st_cod; (case hc => (simp only [go_sem, *] <;> rfl)); (case hl => (simp only [go_sem, *] <;> rfl)); (case hn => (simp only [go_sem, *] <;> rfl)); (case hp => first | exact p2 | (have hXz := p2; simp only [go_sem, *] at hXz; exact hXz)); (case hd => first | exact sps_dry _ | exact ints_dry _ | (repeat' (first | exact Dry.v _ | exact Dry.any | exact Dry.nils | exact Dry.slE | refine Dry.agg ?_ | refine Dry.tup ?_ | (refine List.forall_mem_cons.2 (And.intro ?_ ?_)) | (intro cQ hQ; cases hQ; done)))); (case hm => first | decide | (simp; done)))
  | (apply Awp.reg; (case hn => (simp only [List.length_cons, List.length_nil, Nat.reduceAdd] <;> rfl)))
  | (refine Awp.skip ?_; try simp only [go_sem, *])
  | refine Awp.block ?_
  | (apply Awp.cond; (case hc => (simp only [go_sem, *] <;> rfl)); all_goals (intro hg; (try simp only [Bool.not_true, Bool.not_false, reduceCtorEq] at hg)))
  | refine Awp.seq ?_
  | (apply sl_a; (case hc => rfl); (case he => (simp only [go_sem, *] <;> rfl)); (case hu => (simp only [updL_nil, updL_cons] <;> rfl)); (case hl => (simp only [List.map_cons, List.map_nil] <;> rfl)); (case hp => first | trivial | omega))
  | (refine sl_nil (And.intro (by first | exact drawOk_of (by decide +kernel) | (simp only [List.map_cons, List.map_nil]; exact drawOk_of (by decide +kernel)) | decide) ?_)))
    refine ⟨i + 1, by omega, by omega, ?_⟩
    (apply Ghost.mk [(2, 161)] []; (case hdead => rfl); (case hinj => rfl); (case hV => (simp only [go_sem, *]) <;> (repeat' (first | refine And.intro ?_ ?_ | exact View.int (by first | rfl | omega | (simp; done) | (rw [wrap_i64] <;> (try simp only [Int.natCast_add]) <;> omega) | (simp [*]; done)) | exact .bp rfl (by decide) | exact .own rfl (by decide)))); (case hB => (simp only [go_sem, *]) <;> (repeat' (first | refine And.intro ?_ ?_ | exact ⟨_, rfl, BView.boxF rfl⟩ | exact ⟨_, rfl, .rowE (by first | rfl | omega | (simp; done) | (rw [wrap_i64] <;> (try simp only [Int.natCast_add]) <;> omega) | (simp [*]; done))⟩))))
  ·have hlt' : ¬ (i : Int) < l.length := by omega
   have e1 : l.take i = l := List.take_of_length_le (by omega)
   have hSl := startsZ_len l x.a
   rw [e1]
   unfold rstart boxZ
   repeat' (first
  | (apply Awp.sreg; (case hn => (simp only [List.length_cons, List.length_nil, Nat.reduceAdd] <;> rfl)))
  | (refine st_nil ?_)
  | (apply st_a; (case hc => rfl); (case he => (simp only [go_sem, *] <;> rfl)); (case hu => (simp only [updL_nil, updL_cons] <;> rfl)); (case hp => first | trivial))
  | (refine Awp.exit ?_; try simp only [go_sem, *])
  | refine Awp.block ?_
  | (apply Awp.cond; (case hc => (simp only [go_sem, *] <;> rfl)); all_goals (intro hg; (try simp only [Bool.not_true, Bool.not_false, reduceCtorEq] at hg)))
  | refine Awp.seq ?_)
   unfold fitS
   obtain ⟨S, hS⟩ : ∃ S, startsZ l x.a = S := ⟨_, rfl⟩
   rw [hS] at hSl ⊢
   clear hS e1 hlt' hlt hi
   refine Awp.loop (fun j : Nat => j ≤ S.length ∧ ∀ i, i < j → bs.findSome? (tryB bs l x h (S.getD i 0)) = none) 200
    (fun j => mkS [(0, .sl (bys bs)), (1, .sl (stys l)), (3, .v (.int .i64 h)), (6, .bp 0 0), (8, .bp 1 0), (11, .own 2), (13, .v (.int .i64 j))] [(0, .box x.cells), (1, .box boxZ), (2, .row (ints S) 1 3)]) (fun j => S.length - j) 0 ⟨Nat.zero_le _, fun j hj => by simp at hj⟩ ?_ ?_
   ·unfold boxZ
    (apply Ghost.mk [] []; (case hdead => rfl); (case hinj => rfl); (case hV => (simp only [go_sem, *]) <;> (repeat' (first | refine And.intro ?_ ?_ | exact View.int (by first | rfl | omega | (simp; done) | (rw [wrap_i64] <;> (try simp only [Int.natCast_add]) <;> omega) | (simp [*]; done)) | exact .bp rfl (by decide) | exact .own rfl (by decide)))); (case hB => (simp only [go_sem, *]) <;> (repeat' (first | refine And.intro ?_ ?_ | exact ⟨_, rfl, BView.boxF rfl⟩ | exact ⟨_, rfl, .rowE (by first | rfl | omega | (simp; done) | (rw [wrap_i64] <;> (try simp only [Int.natCast_add]) <;> omega) | (simp [*]; done))⟩))))
   ·intro j ⟨hj, hno⟩
    by_cases hlt : j < S.length
    ·have hlt' : (j : Int) < S.length := by omega
     have hat := ints_at S j hlt
     obtain ⟨t, ht⟩ : ∃ t, S.getD j 0 = t := ⟨_, rfl⟩
     rw [ht] at hat
     unfold boxZ
     repeat' (first
  | (apply Awp.sreg; (case hn => (simp only [List.length_cons, List.length_nil, Nat.reduceAdd] <;> rfl)))
  | (refine st_nil ?_)
  | (apply st_a; (case hc => rfl); (case he => (simp only [go_sem, *] <;> rfl)); (case hu => (simp only [updL_nil, updL_cons] <;> rfl)); (case hp => first | trivial))
  | (refine Awp.skip ?_; try simp only [go_sem, *])
  | refine Awp.block ?_
  | (apply Awp.cond; (case hc => (simp only [go_sem, *] <;> rfl)); all_goals (intro hg; (try simp only [Bool.not_true, Bool.not_false, reduceCtorEq] at hg)))
  | refine Awp.seq ?_)
     refine Awp.loop (fun k : Nat => k ≤ bs.length ∧ ∀ i, i < k → tryB bs l x h t (bs.getD i zeroBy) = none) 300
      (fun k => mkS [(0, .sl (bys bs)), (1, .sl (stys l)), (3, .v (.int .i64 h)), (6, .bp 0 0), (8, .bp 1 0), (11, .own 2), (13, .v (.int .i64 j)), (14, .v (.int .i64 k))] [(0, .box x.cells), (1, .box boxZ), (2, .row (ints S) 1 3)]) (fun k => bs.length - k) 0 ⟨Nat.zero_le _, fun j hj => by simp at hj⟩ ?_ ?_
     ·unfold boxZ
      (apply Ghost.mk [] []; (case hdead => rfl); (case hinj => rfl); (case hV => (simp only [go_sem, *]) <;> (repeat' (first | refine And.intro ?_ ?_ | exact View.int (by first | rfl | omega | (simp; done) | (rw [wrap_i64] <;> (try simp only [Int.natCast_add]) <;> omega) | (simp [*]; done)) | exact .bp rfl (by decide) | exact .own rfl (by decide)))); (case hB => (simp only [go_sem, *]) <;> (repeat' (first | refine And.intro ?_ ?_ | exact ⟨_, rfl, BView.boxF rfl⟩ | exact ⟨_, rfl, .rowE (by first | rfl | omega | (simp; done) | (rw [wrap_i64] <;> (try simp only [Int.natCast_add]) <;> omega) | (simp [*]; done))⟩))))
     ·intro k ⟨hk, hnk⟩
      by_cases hlk : k < bs.length
      ·have hlk' : (k : Int) < bs.length := by omega
       have hatk := bys_at bs k hlk
       have hz : ((bs.getD k zeroBy).cells).length = 3 := rfl
       obtain ⟨q, hq⟩ : ∃ q, bs.getD k zeroBy = q := ⟨_, rfl⟩
       rw [hq] at hatk hz
       have c3 := rspot_ok bs l ⟨x.item, q.nm, 0, 0, x.len, x.wid, t, IntKind.i64.wrap (t + h)⟩ (by omega) hl hx
       have e3 : spotE bs l ⟨x.item, q.nm, 0, 0, x.len, x.wid, t, IntKind.i64.wrap (t + h)⟩ = spotE bs l (x.when q.nm t (IntKind.i64.wrap (t + h))) := rfl
       rw [e3] at c3
       have hty : tryB bs l x h t q = if (spotE bs l (x.when q.nm t (IntKind.i64.wrap (t + h)))).2 then some (spotE bs l (x.when q.nm t (IntKind.i64.wrap (t + h)))).1 else none := rfl
       have hnx : tryB bs l x h t q = none → ∀ i, i < k + 1 → tryB bs l x h t (bs.getD i zeroBy) = none := fun hp => ltSucc hnk (by rw [hq]; exact hp)
       have hyes : ∀ {y : Sty}, tryB bs l x h t q = some y → S.findSome? (fun t => bs.findSome? (tryB bs l x h t)) = some y := fun {y} hp => by
        refine fs_hit (d := 0) hlt hno ?_
        rw [ht]
        exact fs_hit hlk hnk (by rw [hq]; exact hp)
       clear hno hnk hq ht e3
       generalize hsp : spotE bs l (x.when q.nm t (IntKind.i64.wrap (t + h))) = sp at *
       obtain ⟨y, f⟩ := sp
       dsimp only at hty c3
       clear hsp
       cases f
       ·have hn2 := hnx (by rw [hty]; rfl)
        clear hnx hyes hty
        unfold boxZ at *
        repeat' (first
  | (apply Awp.sreg; (case hn => (simp only [List.length_cons, List.length_nil, Nat.reduceAdd] <;> rfl)))
  | (apply Awp.sdraw; (case hn => (simp only [List.length_cons, List.length_nil, Nat.reduceAdd] <;> rfl)))
  | (refine st_nil ?_)
  | (apply st_a; (case hc => rfl); (case he => (simp only [go_sem, *] <;> rfl)); (case hu => (simp only [updL_nil, updL_cons] <;> rfl)); (case hp => first | trivial))
  | (apply st_c; (case hc => (simp only [go_sem, *] <;> rfl)); (case hl => (simp only [go_sem, *] <;> rfl)); (case hn => (simp only [go_sem, *] <;> rfl)); (case hp => first | exact c3 | (have hXz := c3; simp only [go_sem, *] at hXz; exact hXz)))
  | (apply Awp.reg; (case hn => (simp only [List.length_cons, List.length_nil, Nat.reduceAdd] <;> rfl)))
  | (refine Awp.skip ?_; try simp only [go_sem, *])
  | refine Awp.block ?_
  | (apply Awp.cond; (case hc => (simp only [go_sem, *] <;> rfl)); all_goals (intro hg; (try simp only [Bool.not_true, Bool.not_false, reduceCtorEq] at hg)))
  | refine Awp.seq ?_
  | (apply sl_a; (case hc => rfl); (case he => (simp only [go_sem, *] <;> rfl)); (case hu => (simp only [updL_nil, updL_cons] <;> rfl)); (case hl => (simp only [List.map_cons, List.map_nil] <;> rfl)); (case hp => first | trivial | omega))
  | (refine sl_nil (And.intro (by first | exact drawOk_of (by decide +kernel) | (simp only [List.map_cons, List.map_nil]; exact drawOk_of (by decide +kernel)) | decide) ?_)))
        refine ⟨k + 1, ⟨by omega, hn2⟩, by omega, ?_⟩
        (apply Ghost.mk [] []; (case hdead => rfl); (case hinj => rfl); (case hV => (simp only [go_sem, *]) <;> (repeat' (first | refine And.intro ?_ ?_ | exact View.int (by first | rfl | omega | (simp; done) | (rw [wrap_i64] <;> (try simp only [Int.natCast_add]) <;> omega) | (simp [*]; done)) | exact .bp rfl (by decide) | exact .own rfl (by decide)))); (case hB => (simp only [go_sem, *]) <;> (repeat' (first | refine And.intro ?_ ?_ | exact ⟨_, rfl, BView.boxF rfl⟩ | exact ⟨_, rfl, .rowE (by first | rfl | omega | (simp; done) | (rw [wrap_i64] <;> (try simp only [Int.natCast_add]) <;> omega) | (simp [*]; done))⟩))))
       ·have hy2 := hyes (y := y) (by rw [hty]; rfl)
        rw [hy2]
        clear hnx hyes hty hy2
        unfold boxZ at *
        repeat' (first
  | (apply Awp.sreg; (case hn => (simp only [List.length_cons, List.length_nil, Nat.reduceAdd] <;> rfl)))
  | (apply Awp.sdraw; (case hn => (simp only [List.length_cons, List.length_nil, Nat.reduceAdd] <;> rfl)))
  | (refine st_nil ?_)
  | (apply st_a; (case hc => rfl); (case he => (simp only [go_sem, *] <;> rfl)); (case hu => (simp only [updL_nil, updL_cons] <;> rfl)); (case hp => first | trivial))
  | (apply st_c; (case hc => (simp only [go_sem, *] <;> rfl)); (case hl => (simp only [go_sem, *] <;> rfl)); (case hn => (simp only [go_sem, *] <;> rfl)); (case hp => first | exact c3 | (have hXz := c3; simp only [go_sem, *] at hXz; exact hXz)))
  | (refine Awp.ret ?_; try simp only [go_sem, *])
  | (refine Awp.skip ?_; try simp only [go_sem, *])
  | refine Awp.block ?_
  | (apply Awp.cond; (case hc => (simp only [go_sem, *] <;> rfl)); all_goals (intro hg; (try simp only [Bool.not_true, Bool.not_false, reduceCtorEq] at hg)))
  | refine Awp.seq ?_
  | (apply sl_a; (case hc => rfl); (case he => (simp only [go_sem, *] <;> rfl)); (case hu => (simp only [updL_nil, updL_cons] <;> rfl)); (case hl => (simp only [List.map_cons, List.map_nil] <;> rfl)); (case hp => first | trivial | omega))
  | (refine sl_nil (And.intro (by first | exact drawOk_of (by decide +kernel) | (simp only [List.map_cons, List.map_nil]; exact drawOk_of (by decide +kernel)) | decide) ?_)))
        all_goals repeat' (first | exact Lower.int (by first | rfl | (simp only [true_and, Bool.true_and, Bool.false_and, Bool.and_true, Bool.and_false, Bool.true_or, Bool.false_or, reduceIte, Bool.false_eq_true, *]; done) | (simp only [true_and, reduceIte, Bool.false_eq_true, *] <;> rfl) | (simp [true_and]; done) | (simp_all [true_and]; done) | omega) | exact Lower.str (by first | rfl | (simp only [true_and, Bool.true_and, Bool.false_and, Bool.and_true, Bool.and_false, Bool.true_or, Bool.false_or, reduceIte, Bool.false_eq_true, *]; done) | (simp only [true_and, reduceIte, Bool.false_eq_true, *] <;> rfl) | (simp [true_and]; done) | (simp_all [true_and]; done) | omega) | refine Lower.aggF ?_ | refine Lower.tupF ?_ | refine All2.cons ?_ ?_ | exact All2.nil)
      ·have hlk' : ¬ (k : Int) < bs.length := by omega
       have hn2 := ltSucc hno (by rw [ht]; exact fs_no (Nat.le_of_not_lt hlk) hnk)
       clear hno hnk hat
       unfold boxZ
       repeat' (first
  | (apply Awp.sreg; (case hn => (simp only [List.length_cons, List.length_nil, Nat.reduceAdd] <;> rfl)))
  | (refine st_nil ?_)
  | (apply st_a; (case hc => rfl); (case he => (simp only [go_sem, *] <;> rfl)); (case hu => (simp only [updL_nil, updL_cons] <;> rfl)); (case hp => first | trivial))
  | (apply Awp.reg; (case hn => (simp only [List.length_cons, List.length_nil, Nat.reduceAdd] <;> rfl)))
  | (refine Awp.exit ?_; try simp only [go_sem, *])
  | (apply Awp.cond; (case hc => (simp only [go_sem, *] <;> rfl)); all_goals (intro hg; (try simp only [Bool.not_true, Bool.not_false, reduceCtorEq] at hg)))
  | refine Awp.seq ?_)
       refine ⟨j + 1, ⟨by omega, hn2⟩, by omega, ?_⟩
       (apply Ghost.mk [] []; (case hdead => rfl); (case hinj => rfl); (case hV => (simp only [go_sem, *]) <;> (repeat' (first | refine And.intro ?_ ?_ | exact View.int (by first | rfl | omega | (simp; done) | (rw [wrap_i64] <;> (try simp only [Int.natCast_add]) <;> omega) | (simp [*]; done)) | exact .bp rfl (by decide) | exact .own rfl (by decide)))); (case hB => (simp only [go_sem, *]) <;> (repeat' (first | refine And.intro ?_ ?_ | exact ⟨_, rfl, BView.boxF rfl⟩ | exact ⟨_, rfl, .rowE (by first | rfl | omega | (simp; done) | (rw [wrap_i64] <;> (try simp only [Int.natCast_add]) <;> omega) | (simp [*]; done))⟩))))
    ·have hlt' : ¬ (j : Int) < S.length := by omega
     have hn2 : S.findSome? (fun t => bs.findSome? (tryB bs l x h t)) = none := fs_no (d := 0) (Nat.le_of_not_lt hlt) hno
     rw [hn2]
     clear hno hn2
     unfold boxZ
     repeat' (first
  | (apply Awp.sreg; (case hn => (simp only [List.length_cons, List.length_nil, Nat.reduceAdd] <;> rfl)))
  | (refine st_nil ?_)
  | (apply st_a; (case hc => rfl); (case he => (simp only [go_sem, *] <;> rfl)); (case hu => (simp only [updL_nil, updL_cons] <;> rfl)); (case hp => first | trivial))
  | (refine Awp.ret ?_; try simp only [go_sem, *])
  | (refine Awp.exit ?_; try simp only [go_sem, *])
  | (apply Awp.cond; (case hc => (simp only [go_sem, *] <;> rfl)); all_goals (intro hg; (try simp only [Bool.not_true, Bool.not_false, reduceCtorEq] at hg)))
  | refine Awp.seq ?_)
     all_goals repeat' (first | exact Lower.int (by first | rfl | (simp only [zeroSty, Bool.true_and, Bool.false_and, Bool.and_true, Bool.and_false, Bool.true_or, Bool.false_or, reduceIte, Bool.false_eq_true, *]; done) | (simp only [zeroSty, reduceIte, Bool.false_eq_true, *] <;> rfl) | (simp [zeroSty]; done) | (simp_all [zeroSty]; done) | omega) | exact Lower.str (by first | rfl | (simp only [zeroSty, Bool.true_and, Bool.false_and, Bool.and_true, Bool.and_false, Bool.true_or, Bool.false_or, reduceIte, Bool.false_eq_true, *]; done) | (simp only [zeroSty, reduceIte, Bool.false_eq_true, *] <;> rfl) | (simp [zeroSty]; done) | (simp_all [zeroSty]; done) | omega) | refine Lower.aggF ?_ | refine Lower.tupF ?_ | refine All2.cons ?_ ?_ | exact All2.nil)
end Go.Proofs
