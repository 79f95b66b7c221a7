import Derived.Test.YtnpaijljdkpiiaaGreatDoorPCE
import Derived.ProofKit
import Derived.OpenShut
import Derived.Test.YtnpaijljdkpiiaaGreatDoorCards
import Derived.Test.YtnpaijljdkpiiaaGreatDoorTie
import Derived.WalkKit
import Derived.Deep.DeepHandedRow
import Derived.Lib.LaidTab
set_option linter.unusedVariables false
set_option linter.unusedSimpArgs false
namespace Go.Proofs
open Go Go.Ab
set_option maxHeartbeats 8000000
set_option maxRecDepth 100000
attribute [local irreducible] Awp aops aopsL Go.Ab.Pure PureOwn PureTwoM
def badS (m : Sm) (q : Wk) : Bool := !hasK m.K q.id || ((getS m.K m.V q.id).len != q.len) || ((getS m.K m.V q.id).wid != q.wid) || (IntKind.i64.wrap ((getS m.K m.V q.id).b - (getS m.K m.V q.id).a) != q.hr)
def lateS (m : Sm) (q : Wk) (s : ByteArray) : Bool := decide ((getS m.K m.V q.id).a < (getS m.K m.V s).b)
def anyLate (m : Sm) (q : Wk) : Bool := q.af.any (lateS m q)
def pchkF (l S : List Wk) (P : List Sty) (m : Sm) : Int := if ((P.length : Int) != (l.length : Int) || (m.K.length : Int) != (l.length : Int)) = true then 17 else if S.any (badS m) = true then 17 else if S.any (anyLate m) = true then 11 else 0
def pchkE (l : List Wk) (bs : List By) (P : List Sty) : Int := if (ordE l).2 ≠ 0 then (ordE l).2 else if checkE bs P ≠ 0 then checkE bs P else pchkF l (ordE l).1 P (smG P)
theorem any_hit {α : Type} {p : α → Bool} {l : List α} {d : α} {i : Nat} (h : i < l.length) (hp : p (l.getD i d) = true) : l.any p = true :=
  List.any_eq_true.2 ⟨_, getD_mem d h, hp⟩
theorem any_endD {α : Type} {p : α → Bool} {l : List α} {d : α} {i : Nat} (h : l.length ≤ i) (hp : ∀ j, j < i → p (l.getD j d) = false) : l.any p = false := by
  rw [List.any_eq_false]
  intro x hx
  obtain ⟨j, hj, rfl⟩ := List.getElem_of_mem hx
  have := hp j (by omega)
  rw [List.getD_eq_getElem?_getD, List.getElem?_eq_getElem hj, Option.getD_some] at this
  rw [this]; decide
def ck1 (l S : List Wk) (P : List Sty) (i : Nat) (m : Sm) : AState := mkS [(0, .sl (wks l)), (2, .sl (stys P)), (7, .sl (wks S)), (10, .mapv 0), (36, .sl (stys P)), (37, .v (.int .i64 P.length)), (38, .v (.int .i64 i))] [(0, .map m.K (sav m.V))]
def ck2 (S : List Wk) (i : Nat) (m : Sm) : AState := mkS [(7, .sl (wks S)), (10, .mapv 0), (59, .sl (wks S)), (60, .v (.int .i64 S.length)), (61, .v (.int .i64 i))] [(0, .map m.K (sav m.V))]
def ck3 (S : List Wk) (i : Nat) (m : Sm) : AState := mkS [(10, .mapv 0), (101, .sl (wks S)), (102, .v (.int .i64 S.length)), (103, .v (.int .i64 i))] [(0, .map m.K (sav m.V))]
def ck4 (S : List Wk) (i : Nat) (m : Sm) (q : Wk) (k : Nat) : AState := mkS [(10, .mapv 0), (101, .sl (wks S)), (102, .v (.int .i64 S.length)), (103, .v (.int .i64 i)), (18, .bp 1 0), (108, .sl (strs q.af)), (109, .v (.int .i64 q.af.length)), (110, .v (.int .i64 k))] [(0, .map m.K (sav m.V)), (1, .box q.cells)]
theorem pchk_ok (l : List Wk) (bs : List By) (P : List Sty) (hl : l.length < 1000000) (hb : bs.length < 100000) (hP : P.length < 100000) (ha : ∀ q ∈ l, q.af.length < 1000000) : Pure Tryz.prog 20 [.sl (wks l), .sl (bys bs), .sl (stys P)] (.v (.int .i64 (pchkE l bs P))) := by
  have c0 := ordered_ok l hl ha
  have c1 := check_ok bs P hb hP
  have h1 := ordE_len l
  have h2 := ordE_err l
  have h3 : ∀ q ∈ (ordE l).1, q.af.length < 1000000 := fun q hq => ha q (ordE_mem l q hq)
  unfold pchkE
  generalize ordE l = R at *
  obtain ⟨S, e⟩ := R
  simp only at h1 h2 h3 c0 ⊢
  clear ha
  by_cases he : e = 0
  · subst he
    clear h2
    rw [if_neg (by simp)]
    by_cases hc : checkE bs P = 0
    · rw [if_neg (by simp [hc])]
      rw [hc] at c1
      clear hc
      generalize hR : pchkF l S P (smG P) = R
      have hmk : (smG P).V.length = (smG P).K.length := smG_len P ⟨[], []⟩ rfl
      refine fn_pure Tryz.F20 (Nat.le_of_ble_eq_true rfl) ?_; unfold Tryz.ac20 AR AM AO
      repeat' (first
 | (apply Awp.sreg; (case hn => (simp only [List.length_cons, List.length_nil, Nat.reduceAdd] <;> rfl)))
 | (refine st_nil ?_)
 | (apply st_a; (case hc => rfl); (case he => (simp only [go_sem, *] <;> rfl)); (case hu => (simp only [updL_nil, updL_cons] <;> rfl)); (case hp => first | trivial))
 | (apply st_c; (case hc => (simp only [go_sem, *] <;> rfl)); (case hl => (simp only [go_sem, *] <;> rfl)); (case hn => (simp only [go_sem, *] <;> rfl)); (case hp => first | exact c0 | (have hXz := c0; simp only [go_sem, *] at hXz; exact hXz)))
 | (apply st_c; (case hc => (simp only [go_sem, *] <;> rfl)); (case hl => (simp only [go_sem, *] <;> rfl)); (case hn => (simp only [go_sem, *] <;> rfl)); (case hp => first | exact c1 | (have hXz := c1; simp only [go_sem, *] at hXz; exact hXz)))
 | (refine Awp.skip ?_; try simp only [go_sem, *])
 | refine Awp.block ?_
 | (apply Awp.cond; (case hc => (simp only [go_sem, *] <;> rfl)); all_goals (intro hg; (try simp only [Bool.not_true, Bool.not_false, reduceCtorEq] at hg)))
 | refine Awp.seq ?_)
      refine Awp.loop (fun i : Nat => i ≤ P.length) 100 (fun i => ck1 l S P i (smG (P.take i))) (fun i => P.length - i) 0 (Nat.zero_le _) ?_ ?_
      · have e1 : smG (P.take 0) = ⟨[], []⟩ := rfl
        have e2 : sav [] = [] := rfl
        unfold ck1
        rw [e1]
        simp only [e2]
        clear h3 hR hmk
        (apply Ghost.mk [(0, 16)] []; (case hdead => rfl); (case hinj => rfl); (case hV => (simp only [go_sem, *]) <;> (repeat' (first | refine And.intro ?_ ?_ | exact View.int (by first | rfl | omega | (simp; done) | (rw [wrap_i64] <;> (try simp only [Int.natCast_add]) <;> omega) | (simp [*]; done)) | exact .mapv rfl (by decide)))); (case hB => (simp only [go_sem, *]) <;> (repeat' (first | exact ⟨_, rfl, BView.mapE (by first | rfl | omega | (simp; done) | (rw [wrap_i64] <;> (try simp only [Int.natCast_add]) <;> omega) | (simp [*]; done)) (by first | rfl | omega | (simp; done) | (rw [wrap_i64] <;> (try simp only [Int.natCast_add]) <;> omega) | (simp [*]; done))⟩))))
      · intro i hi
        by_cases hlt : i < P.length
        · have hlt' : (i : Int) < P.length := by omega
          have hat := stys_at P i hlt
          have hz : ((P.getD i zeroSty).cells).length = 8 := rfl
          have hst := smG_step P i hlt
          have hps := putS_eq (smG (P.take i)).K (smG (P.take i)).V (P.getD i zeroSty).item (P.getD i zeroSty)
          have hpk := pK_eq (smG (P.take i)).K (P.getD i zeroSty).item
          generalize smG (P.take i) = m at *
          generalize P.getD i zeroSty = x at *
          simp only [Sty.cells] at hps
          unfold smS at hst
          clear c0 c1 h3 hR hmk
          unfold ck1
          repeat' (first
 | (apply Awp.sreg; (case hn => (simp only [List.length_cons, List.length_nil, Nat.reduceAdd] <;> rfl)))
 | (refine st_nil ?_)
 | (apply st_a; (case hc => rfl); (case he => (simp only [go_sem, *] <;> rfl)); (case hu => (simp only [updL_nil, updL_cons] <;> rfl)); (case hp => first | trivial | omega))
 | (apply Awp.reg; (case hn => (simp only [List.length_cons, List.length_nil, Nat.reduceAdd] <;> rfl)))
 | (refine Awp.skip ?_; try simp only [go_sem, *])
 | refine Awp.block ?_
 | (apply Awp.cond; (case hc => (simp only [go_sem, *] <;> rfl)); all_goals (intro hg; (try simp only [Bool.not_true, Bool.not_false, reduceCtorEq] at hg)))
 | refine Awp.seq ?_)
          refine ⟨i + 1, by omega, by omega, ?_⟩
          rw [hst]
          clear hst
          (apply Ghost.mk [] []; (case hdead => rfl); (case hinj => rfl); (case hV => (simp only [go_sem, *]) <;> (repeat' (first | refine And.intro ?_ ?_ | exact View.int (by first | rfl | omega | (simp; done) | (rw [wrap_i64] <;> (try simp only [Int.natCast_add]) <;> omega) | (simp [*]; done)) | exact .mapv rfl (by decide)))); (case hB => (simp only [go_sem, *]) <;> (repeat' (first | exact ⟨_, rfl, BView.mapE (by first | rfl | omega | (simp; done) | (rw [wrap_i64] <;> (try simp only [Int.natCast_add]) <;> omega) | (simp [*]; done)) (by first | rfl | omega | (simp; done) | (rw [wrap_i64] <;> (try simp only [Int.natCast_add]) <;> omega) | (simp [*]; done))⟩))))
        · have hlt' : ¬ (i : Int) < P.length := by omega
          have e1 : P.take i = P := List.take_of_length_le (by omega)
          rw [e1]
          clear e1 c0 c1
          unfold pchkF at hR
          generalize smG P = m at *
          unfold ck1
          cases hL : ((P.length : Int) != (l.length : Int) || (m.K.length : Int) != (l.length : Int))
          case true =>
            rw [if_pos hL] at hR
            subst hR
            clear h3 hmk
            repeat' (first
 | (apply Awp.sreg; (case hn => (simp only [List.length_cons, List.length_nil, Nat.reduceAdd] <;> rfl)))
 | (refine st_nil ?_)
 | (apply st_a; (case hc => rfl); (case he => (simp only [go_sem, *] <;> rfl)); (case hu => (simp only [updL_nil, updL_cons] <;> rfl)); (case hp => first | trivial))
 | (apply st_m; (case hc => rfl); (case hg => (simp only [go_sem, *] <;> rfl)); (case he => (intro hQz; (try simp only [wantB_t, wantB_f, Bool.and_eq_true, Bool.not_eq_true', Bool.not_true, Bool.not_false, and_true, true_and] at hQz); simp only [go_sem, *] <;> rfl)); (case hp => (intro hQz; (try simp only [wantB_t, wantB_f, Bool.and_eq_true, Bool.not_eq_true', Bool.or_eq_false_iff, decide_eq_true_eq, decide_eq_false_iff_not, beq_iff_eq, beq_eq_false_iff_ne, bne_iff_ne, bne_eq_false_iff_eq, Int.not_lt, Int.not_le, Int.ofNat_lt, Int.ofNat_le] at hQz); first | trivial)))
 | (refine Awp.ret ?_; try simp only [go_sem, *])
 | (refine Awp.exit ?_; try simp only [go_sem, *])
 | (apply Awp.cond; (case hc => (simp only [go_sem, *] <;> rfl)); all_goals (intro hg; (try simp only [Bool.not_true, Bool.not_false, reduceCtorEq] at hg)))
 | refine Awp.seq ?_)
            all_goals repeat' (first | exact Lower.int (by first | rfl | (simp only [true_and, Bool.true_and, Bool.false_and, Bool.and_true, Bool.and_false, Bool.true_or, Bool.false_or, reduceIte, Bool.false_eq_true, *]; done) | (simp only [true_and, reduceIte, Bool.false_eq_true, *] <;> rfl) | (simp [true_and]; done) | (simp_all [true_and]; done) | omega))
          rw [hL, if_neg (by decide)] at hR
          repeat' (first
 | (apply Awp.sreg; (case hn => (simp only [List.length_cons, List.length_nil, Nat.reduceAdd] <;> rfl)))
 | (refine st_nil ?_)
 | (apply st_a; (case hc => rfl); (case he => (simp only [go_sem, *] <;> rfl)); (case hu => (simp only [updL_nil, updL_cons] <;> rfl)); (case hp => first | trivial))
 | (apply st_m; (case hc => rfl); (case hg => (simp only [go_sem, *] <;> rfl)); (case he => (intro hQz; (try simp only [wantB_t, wantB_f, Bool.and_eq_true, Bool.not_eq_true', Bool.not_true, Bool.not_false, and_true, true_and] at hQz); simp only [go_sem, *] <;> rfl)); (case hp => (intro hQz; (try simp only [wantB_t, wantB_f, Bool.and_eq_true, Bool.not_eq_true', Bool.or_eq_false_iff, decide_eq_true_eq, decide_eq_false_iff_not, beq_iff_eq, beq_eq_false_iff_ne, bne_iff_ne, bne_eq_false_iff_eq, Int.not_lt, Int.not_le, Int.ofNat_lt, Int.ofNat_le] at hQz); first | trivial)))
 | (refine Awp.skip ?_; try simp only [go_sem, *])
 | (refine Awp.exit ?_; try simp only [go_sem, *])
 | refine Awp.block ?_
 | (apply Awp.cond; (case hc => (simp only [go_sem, *] <;> rfl)); all_goals (intro hg; (try simp only [Bool.not_true, Bool.not_false, reduceCtorEq] at hg)))
 | refine Awp.seq ?_)
          refine Awp.loop (fun i : Nat => i ≤ S.length ∧ ∀ j, j < i → badS m (S.getD j zeroWk) = false) 200 (fun i => ck2 S i m) (fun i => S.length - i) 0 (by simp) ?_ ?_
          · unfold ck2
            clear h3 hR hmk hL
            (apply Ghost.mk [] []; (case hdead => rfl); (case hinj => rfl); (case hV => (simp only [go_sem, *]) <;> (repeat' (first | refine And.intro ?_ ?_ | exact View.int (by first | rfl | omega | (simp; done) | (rw [wrap_i64] <;> (try simp only [Int.natCast_add]) <;> omega) | (simp [*]; done)) | exact .mapv rfl (by decide)))); (case hB => (simp only [go_sem, *]) <;> (repeat' (first | exact ⟨_, rfl, BView.mapE (by first | rfl | omega | (simp; done) | (rw [wrap_i64] <;> (try simp only [Int.natCast_add]) <;> omega) | (simp [*]; done)) (by first | rfl | omega | (simp; done) | (rw [wrap_i64] <;> (try simp only [Int.natCast_add]) <;> omega) | (simp [*]; done))⟩))))
          · intro i ⟨hi, hj⟩
            clear hL
            by_cases hlt : i < S.length
            · have hlt' : (i : Int) < S.length := by omega
              have hat := wks_at S i hlt
              have hz : ((S.getD i zeroWk).cells).length = 5 := rfl
              have hbad : badS m (S.getD i zeroWk) = true → R = 17 := fun h => by rw [← hR, if_pos (any_hit hlt h)]
              have hnx : badS m (S.getD i zeroWk) = false → Hid (∀ j, j < i + 1 → badS m (S.getD j zeroWk) = false) := fun h => ltSucc hj h
              have hsm := @isSome_has m.K (S.getD i zeroWk).id
              have hv := getS_eq hmk (S.getD i zeroWk).id
              have hy : ((getS m.K m.V (S.getD i zeroWk).id).cells).length = 8 := rfl
              simp only [Sty.cells, zeroSty] at hv
              clear hj hR h3
              generalize S.getD i zeroWk = q at *
              unfold badS at hbad hnx
              generalize getS m.K m.V q.id = y at *
              unfold ck2
              cases h4 : (!hasK m.K q.id || (y.len != q.len) || (y.wid != q.wid) || (IntKind.i64.wrap (y.b - y.a) != q.hr))
              · have hnx := hnx h4
                clear hbad
                repeat' (first
 | (apply Awp.sreg; (case hn => (simp only [List.length_cons, List.length_nil, Nat.reduceAdd] <;> rfl)))
 | (refine st_nil ?_)
 | (apply st_a; (case hc => rfl); (case he => (simp only [go_sem, *] <;> rfl)); (case hu => (simp only [updL_nil, updL_cons] <;> rfl)); (case hp => first | trivial | omega))
 | (apply st_m; (case hc => rfl); (case hg => (simp only [go_sem, *] <;> rfl)); (case he => (intro hQz; (try simp only [wantB_t, wantB_f, Bool.and_eq_true, Bool.not_eq_true', Bool.not_true, Bool.not_false, and_true, true_and] at hQz); simp only [go_sem, *] <;> rfl)); (case hp => (intro hQz; (try simp only [wantB_t, wantB_f, Bool.and_eq_true, Bool.not_eq_true', Bool.or_eq_false_iff, decide_eq_true_eq, decide_eq_false_iff_not, beq_iff_eq, beq_eq_false_iff_ne, bne_iff_ne, bne_eq_false_iff_eq, Int.not_lt, Int.not_le, Int.ofNat_lt, Int.ofNat_le] at hQz); first | trivial)))
 | (apply Awp.reg; (case hn => (simp only [List.length_cons, List.length_nil, Nat.reduceAdd] <;> rfl)))
 | (refine Awp.skip ?_; try simp only [go_sem, *])
 | refine Awp.block ?_
 | (apply Awp.cond; (case hc => (simp only [go_sem, *] <;> rfl)); all_goals (intro hg; (try simp only [Bool.not_true, Bool.not_false, reduceCtorEq] at hg)))
 | refine Awp.seq ?_)
                refine ⟨i + 1, ⟨by omega, hnx⟩, by omega, ?_⟩
                (apply Ghost.mk [] []; (case hdead => rfl); (case hinj => rfl); (case hV => (simp only [go_sem, *]) <;> (repeat' (first | refine And.intro ?_ ?_ | exact View.int (by first | rfl | omega | (simp; done) | (rw [wrap_i64] <;> (try simp only [Int.natCast_add]) <;> omega) | (simp [*]; done)) | exact .mapv rfl (by decide)))); (case hB => (simp only [go_sem, *]) <;> (repeat' (first | exact ⟨_, rfl, BView.mapE (by first | rfl | omega | (simp; done) | (rw [wrap_i64] <;> (try simp only [Int.natCast_add]) <;> omega) | (simp [*]; done)) (by first | rfl | omega | (simp; done) | (rw [wrap_i64] <;> (try simp only [Int.natCast_add]) <;> omega) | (simp [*]; done))⟩))))
              · have hbad := hbad h4
                clear hnx
                subst hbad
                repeat' (first
 | (apply Awp.sreg; (case hn => (simp only [List.length_cons, List.length_nil, Nat.reduceAdd] <;> rfl)))
 | (refine st_nil ?_)
 | (apply st_a; (case hc => rfl); (case he => (simp only [go_sem, *] <;> rfl)); (case hu => (simp only [updL_nil, updL_cons] <;> rfl)); (case hp => first | trivial | omega))
 | (apply st_m; (case hc => rfl); (case hg => (simp only [go_sem, *] <;> rfl)); (case he => (intro hQz; (try simp only [wantB_t, wantB_f, Bool.and_eq_true, Bool.not_eq_true', Bool.not_true, Bool.not_false, and_true, true_and] at hQz); simp only [go_sem, *] <;> rfl)); (case hp => (intro hQz; (try simp only [wantB_t, wantB_f, Bool.and_eq_true, Bool.not_eq_true', Bool.or_eq_false_iff, decide_eq_true_eq, decide_eq_false_iff_not, beq_iff_eq, beq_eq_false_iff_ne, bne_iff_ne, bne_eq_false_iff_eq, Int.not_lt, Int.not_le, Int.ofNat_lt, Int.ofNat_le] at hQz); first | trivial)))
 | (refine Awp.ret ?_; try simp only [go_sem, *])
 | (refine Awp.skip ?_; try simp only [go_sem, *])
 | refine Awp.block ?_
 | (apply Awp.cond; (case hc => (simp only [go_sem, *] <;> rfl)); all_goals (intro hg; (try simp only [Bool.not_true, Bool.not_false, reduceCtorEq] at hg)))
 | refine Awp.seq ?_)
                all_goals repeat' (first | exact Lower.int (by first | rfl | (simp only [true_and, Bool.true_and, Bool.false_and, Bool.and_true, Bool.and_false, Bool.true_or, Bool.false_or, reduceIte, Bool.false_eq_true, *]; done) | (simp only [true_and, reduceIte, Bool.false_eq_true, *] <;> rfl) | (simp [true_and]; done) | (simp_all [true_and]; done) | omega))
            · have hlt' : ¬ (i : Int) < S.length := by omega
              have hne : S.any (badS m) = false := any_endD (d := zeroWk) (by omega) hj
              rw [hne, if_neg (by decide)] at hR
              clear hj hne
              unfold ck2
              repeat' (first
 | (apply Awp.sreg; (case hn => (simp only [List.length_cons, List.length_nil, Nat.reduceAdd] <;> rfl)))
 | (refine st_nil ?_)
 | (apply st_a; (case hc => rfl); (case he => (simp only [go_sem, *] <;> rfl)); (case hu => (simp only [updL_nil, updL_cons] <;> rfl)); (case hp => first | trivial))
 | (refine Awp.exit ?_; try simp only [go_sem, *])
 | refine Awp.block ?_
 | (apply Awp.cond; (case hc => (simp only [go_sem, *] <;> rfl)); all_goals (intro hg; (try simp only [Bool.not_true, Bool.not_false, reduceCtorEq] at hg)))
 | refine Awp.seq ?_)
              refine Awp.loop (fun i : Nat => i ≤ S.length ∧ ∀ j, j < i → anyLate m (S.getD j zeroWk) = false) 300 (fun i => ck3 S i m) (fun i => S.length - i) 0 (by simp) ?_ ?_
              · unfold ck3
                clear h3 hR hmk
                (apply Ghost.mk [] []; (case hdead => rfl); (case hinj => rfl); (case hV => (simp only [go_sem, *]) <;> (repeat' (first | refine And.intro ?_ ?_ | exact View.int (by first | rfl | omega | (simp; done) | (rw [wrap_i64] <;> (try simp only [Int.natCast_add]) <;> omega) | (simp [*]; done)) | exact .mapv rfl (by decide)))); (case hB => (simp only [go_sem, *]) <;> (repeat' (first | exact ⟨_, rfl, BView.mapE (by first | rfl | omega | (simp; done) | (rw [wrap_i64] <;> (try simp only [Int.natCast_add]) <;> omega) | (simp [*]; done)) (by first | rfl | omega | (simp; done) | (rw [wrap_i64] <;> (try simp only [Int.natCast_add]) <;> omega) | (simp [*]; done))⟩))))
              · intro i ⟨hi, hj⟩
                by_cases hlt : i < S.length
                · have hlt' : (i : Int) < S.length := by omega
                  have hat := wks_at S i hlt
                  have hz : ((S.getD i zeroWk).cells).length = 5 := rfl
                  have hal := h3 _ (getD_mem zeroWk hlt)
                  have hbad : anyLate m (S.getD i zeroWk) = true → R = 11 := fun h => by rw [← hR, if_pos (any_hit hlt h)]
                  have hnx : anyLate m (S.getD i zeroWk) = false → Hid (∀ j, j < i + 1 → anyLate m (S.getD j zeroWk) = false) := fun h => ltSucc hj h
                  clear hj hR h3
                  generalize S.getD i zeroWk = q at *
                  unfold anyLate at hbad hnx
                  unfold ck3
                  repeat' (first
 | (apply Awp.sreg; (case hn => (simp only [List.length_cons, List.length_nil, Nat.reduceAdd] <;> rfl)))
 | (refine st_nil ?_)
 | (apply st_a; (case hc => rfl); (case he => (simp only [go_sem, *] <;> rfl)); (case hu => (simp only [updL_nil, updL_cons] <;> rfl)); (case hp => first | trivial | omega))
 | (refine Awp.skip ?_; try simp only [go_sem, *])
 | refine Awp.block ?_
 | (apply Awp.cond; (case hc => (simp only [go_sem, *] <;> rfl)); all_goals (intro hg; (try simp only [Bool.not_true, Bool.not_false, reduceCtorEq] at hg)))
 | refine Awp.seq ?_)
                  refine Awp.loop (fun k : Nat => k ≤ q.af.length ∧ ∀ j, j < k → lateS m q (q.af.getD j ⟨#[]⟩) = false) 400 (fun k => ck4 S i m q k) (fun k => q.af.length - k) 0 (by simp) ?_ ?_
                  · unfold ck4
                    clear hbad hnx
                    (apply Ghost.mk [(0, 0), (1, 303)] []; (case hdead => rfl); (case hinj => rfl); (case hV => (simp only [go_sem, *]) <;> (repeat' (first | refine And.intro ?_ ?_ | exact View.int (by first | rfl | omega | (simp; done) | (rw [wrap_i64] <;> (try simp only [Int.natCast_add]) <;> omega) | (simp [*]; done)) | exact .bp rfl (by decide) | exact .mapv rfl (by decide)))); (case hB => (simp only [go_sem, *]) <;> (repeat' (first | refine And.intro ?_ ?_ | exact ⟨_, rfl, BView.boxF rfl⟩ | exact ⟨_, rfl, BView.mapE (by first | rfl | omega | (simp; done) | (rw [wrap_i64] <;> (try simp only [Int.natCast_add]) <;> omega) | (simp [*]; done)) (by first | rfl | omega | (simp; done) | (rw [wrap_i64] <;> (try simp only [Int.natCast_add]) <;> omega) | (simp [*]; done))⟩))))
                  · intro k ⟨hk, hkj⟩
                    by_cases hkt : k < q.af.length
                    · have hkt' : (k : Int) < q.af.length := by omega
                      have hsat := strs_at q.af k hkt
                      have hv1 := getS_eq hmk q.id
                      have hv2 := getS_eq hmk (q.af.getD k ⟨#[]⟩)
                      have hw1 : ((getS m.K m.V q.id).cells).length = 8 := rfl
                      simp only [Sty.cells, zeroSty] at hv1 hv2
                      cases h4 : lateS m q (q.af.getD k ⟨#[]⟩)
                      · have hnx2 := ltSucc hkj h4
                        change Hid _ at hnx2
                        clear hkj hbad hnx
                        unfold lateS at h4
                        generalize getS m.K m.V (q.af.getD k ⟨#[]⟩) = y at *
                        generalize getS m.K m.V q.id = x at *
                        unfold ck4
                        repeat' (first
 | (apply Awp.sreg; (case hn => (simp only [List.length_cons, List.length_nil, Nat.reduceAdd] <;> rfl)))
 | (refine st_nil ?_)
 | (apply st_a; (case hc => rfl); (case he => (simp only [go_sem, *] <;> rfl)); (case hu => (simp only [updL_nil, updL_cons] <;> rfl)); (case hp => first | trivial | omega))
 | (apply Awp.reg; (case hn => (simp only [List.length_cons, List.length_nil, Nat.reduceAdd] <;> rfl)))
 | (refine Awp.skip ?_; try simp only [go_sem, *])
 | refine Awp.block ?_
 | (apply Awp.cond; (case hc => (simp only [go_sem, *] <;> rfl)); all_goals (intro hg; (try simp only [Bool.not_true, Bool.not_false, reduceCtorEq] at hg)))
 | refine Awp.seq ?_)
                        refine ⟨k + 1, ⟨by omega, hnx2⟩, by omega, ?_⟩
                        clear hnx2
                        (apply Ghost.mk [] []; (case hdead => rfl); (case hinj => rfl); (case hV => (simp only [go_sem, *]) <;> (repeat' (first | refine And.intro ?_ ?_ | exact View.int (by first | rfl | omega | (simp; done) | (rw [wrap_i64] <;> (try simp only [Int.natCast_add]) <;> omega) | (simp [*]; done)) | exact .bp rfl (by decide) | exact .mapv rfl (by decide)))); (case hB => (simp only [go_sem, *]) <;> (repeat' (first | refine And.intro ?_ ?_ | exact ⟨_, rfl, BView.boxF rfl⟩ | exact ⟨_, rfl, BView.mapE (by first | rfl | omega | (simp; done) | (rw [wrap_i64] <;> (try simp only [Int.natCast_add]) <;> omega) | (simp [*]; done)) (by first | rfl | omega | (simp; done) | (rw [wrap_i64] <;> (try simp only [Int.natCast_add]) <;> omega) | (simp [*]; done))⟩))))
                      · have hbad := hbad (any_hit hkt h4)
                        clear hkj hnx
                        subst hbad
                        unfold lateS at h4
                        generalize getS m.K m.V (q.af.getD k ⟨#[]⟩) = y at *
                        generalize getS m.K m.V q.id = x at *
                        unfold ck4
                        repeat' (first
 | (apply Awp.sreg; (case hn => (simp only [List.length_cons, List.length_nil, Nat.reduceAdd] <;> rfl)))
 | (refine st_nil ?_)
 | (apply st_a; (case hc => rfl); (case he => (simp only [go_sem, *] <;> rfl)); (case hu => (simp only [updL_nil, updL_cons] <;> rfl)); (case hp => first | trivial | omega))
 | (refine Awp.ret ?_; try simp only [go_sem, *])
 | (refine Awp.skip ?_; try simp only [go_sem, *])
 | refine Awp.block ?_
 | (apply Awp.cond; (case hc => (simp only [go_sem, *] <;> rfl)); all_goals (intro hg; (try simp only [Bool.not_true, Bool.not_false, reduceCtorEq] at hg)))
 | refine Awp.seq ?_)
                        all_goals repeat' (first | exact Lower.int (by first | rfl | (simp only [true_and, Bool.true_and, Bool.false_and, Bool.and_true, Bool.and_false, Bool.true_or, Bool.false_or, reduceIte, Bool.false_eq_true, *]; done) | (simp only [true_and, reduceIte, Bool.false_eq_true, *] <;> rfl) | (simp [true_and]; done) | (simp_all [true_and]; done) | omega))
                    · have hkt' : ¬ (k : Int) < q.af.length := by omega
                      have hnx := hnx (any_endD (d := ⟨#[]⟩) (by omega) hkj)
                      clear hkj hbad
                      unfold ck4
                      repeat' (first
 | (apply Awp.sreg; (case hn => (simp only [List.length_cons, List.length_nil, Nat.reduceAdd] <;> rfl)))
 | (refine st_nil ?_)
 | (apply st_a; (case hc => rfl); (case he => (simp only [go_sem, *] <;> rfl)); (case hu => (simp only [updL_nil, updL_cons] <;> rfl)); (case hp => first | trivial))
 | (apply Awp.reg; (case hn => (simp only [List.length_cons, List.length_nil, Nat.reduceAdd] <;> rfl)))
 | (refine Awp.exit ?_; try simp only [go_sem, *])
 | (apply Awp.cond; (case hc => (simp only [go_sem, *] <;> rfl)); all_goals (intro hg; (try simp only [Bool.not_true, Bool.not_false, reduceCtorEq] at hg)))
 | refine Awp.seq ?_)
                      refine ⟨i + 1, ⟨by omega, hnx⟩, by omega, ?_⟩
                      clear hnx
                      (apply Ghost.mk [] []; (case hdead => rfl); (case hinj => rfl); (case hV => (simp only [go_sem, *]) <;> (repeat' (first | refine And.intro ?_ ?_ | exact View.int (by first | rfl | omega | (simp; done) | (rw [wrap_i64] <;> (try simp only [Int.natCast_add]) <;> omega) | (simp [*]; done)) | exact .mapv rfl (by decide)))); (case hB => (simp only [go_sem, *]) <;> (repeat' (first | exact ⟨_, rfl, BView.mapE (by first | rfl | omega | (simp; done) | (rw [wrap_i64] <;> (try simp only [Int.natCast_add]) <;> omega) | (simp [*]; done)) (by first | rfl | omega | (simp; done) | (rw [wrap_i64] <;> (try simp only [Int.natCast_add]) <;> omega) | (simp [*]; done))⟩))))
                · have hlt' : ¬ (i : Int) < S.length := by omega
                  have hne : S.any (anyLate m) = false := any_endD (d := zeroWk) (by omega) hj
                  rw [hne, if_neg (by decide)] at hR
                  clear hj hne h3
                  subst hR
                  unfold ck3
                  repeat' (first
 | (apply Awp.sreg; (case hn => (simp only [List.length_cons, List.length_nil, Nat.reduceAdd] <;> rfl)))
 | (refine st_nil ?_)
 | (apply st_a; (case hc => rfl); (case he => (simp only [go_sem, *] <;> rfl)); (case hu => (simp only [updL_nil, updL_cons] <;> rfl)); (case hp => first | trivial))
 | (refine Awp.ret ?_; try simp only [go_sem, *])
 | (refine Awp.exit ?_; try simp only [go_sem, *])
 | (apply Awp.cond; (case hc => (simp only [go_sem, *] <;> rfl)); all_goals (intro hg; (try simp only [Bool.not_true, Bool.not_false, reduceCtorEq] at hg)))
 | refine Awp.seq ?_)
                  all_goals repeat' (first | exact Lower.int (by first | rfl | (simp only [true_and, Bool.true_and, Bool.false_and, Bool.and_true, Bool.and_false, Bool.true_or, Bool.false_or, reduceIte, Bool.false_eq_true, *]; done) | (simp only [true_and, reduceIte, Bool.false_eq_true, *] <;> rfl) | (simp [true_and]; done) | (simp_all [true_and]; done) | omega))
    · rw [if_pos hc]
      have hc' : (checkE bs P != 0) = true := by simpa using hc
      generalize checkE bs P = e at *
      clear h3
      refine fn_pure Tryz.F20 (Nat.le_of_ble_eq_true rfl) ?_; unfold Tryz.ac20 AR AM AO
      repeat' (first
 | (apply Awp.sreg; (case hn => (simp only [List.length_cons, List.length_nil, Nat.reduceAdd] <;> rfl)))
 | (refine st_nil ?_)
 | (apply st_a; (case hc => rfl); (case he => (simp only [go_sem, *] <;> rfl)); (case hu => (simp only [updL_nil, updL_cons] <;> rfl)); (case hp => first | trivial))
 | (apply st_c; (case hc => (simp only [go_sem, *] <;> rfl)); (case hl => (simp only [go_sem, *] <;> rfl)); (case hn => (simp only [go_sem, *] <;> rfl)); (case hp => first | exact c0 | (have hXz := c0; simp only [go_sem, *] at hXz; exact hXz)))
 | (apply st_c; (case hc => (simp only [go_sem, *] <;> rfl)); (case hl => (simp only [go_sem, *] <;> rfl)); (case hn => (simp only [go_sem, *] <;> rfl)); (case hp => first | exact c1 | (have hXz := c1; simp only [go_sem, *] at hXz; exact hXz)))
 | (refine Awp.ret ?_; try simp only [go_sem, *])
 | (refine Awp.skip ?_; try simp only [go_sem, *])
 | (apply Awp.cond; (case hc => (simp only [go_sem, *] <;> rfl)); all_goals (intro hg; (try simp only [Bool.not_true, Bool.not_false, reduceCtorEq] at hg); (try have hg' := hg); (try simp only [decide_eq_true_eq, decide_eq_false_iff_not, Bool.and_eq_true, Bool.or_eq_false_iff, bne_iff_ne, bne_eq_false_iff_eq, beq_iff_eq, beq_eq_false_iff_ne, Int.not_lt, Int.not_le, Int.ofNat_lt, Int.ofNat_le, Int.natCast_inj] at hg')))
 | refine Awp.seq ?_)
      all_goals repeat' (first | exact Lower.int (by first | rfl | (simp only [true_and, Bool.true_and, Bool.false_and, Bool.and_true, Bool.and_false, Bool.true_or, Bool.false_or, reduceIte, Bool.false_eq_true, *]; done) | (simp only [true_and, reduceIte, Bool.false_eq_true, *] <;> rfl) | (simp [true_and]; done) | (simp_all [true_and]; done) | omega))
  · rw [if_pos he]
    have he' : (e != 0) = true := by simpa using he
    clear h2 h3
    refine fn_pure Tryz.F20 (Nat.le_of_ble_eq_true rfl) ?_; unfold Tryz.ac20 AR AM AO
    repeat' (first
 | (apply Awp.sreg; (case hn => (simp only [List.length_cons, List.length_nil, Nat.reduceAdd] <;> rfl)))
 | (refine st_nil ?_)
 | (apply st_a; (case hc => rfl); (case he => (simp only [go_sem, *] <;> rfl)); (case hu => (simp only [updL_nil, updL_cons] <;> rfl)); (case hp => first | trivial))
 | (apply st_c; (case hc => (simp only [go_sem, *] <;> rfl)); (case hl => (simp only [go_sem, *] <;> rfl)); (case hn => (simp only [go_sem, *] <;> rfl)); (case hp => first | exact c0 | (have hXz := c0; simp only [go_sem, *] at hXz; exact hXz)))
 | (refine Awp.ret ?_; try simp only [go_sem, *])
 | (apply Awp.cond; (case hc => (simp only [go_sem, *] <;> rfl)); all_goals (intro hg; (try simp only [Bool.not_true, Bool.not_false, reduceCtorEq] at hg); (try have hg' := hg); (try simp only [decide_eq_true_eq, decide_eq_false_iff_not, Bool.and_eq_true, Bool.or_eq_false_iff, bne_iff_ne, bne_eq_false_iff_eq, beq_iff_eq, beq_eq_false_iff_ne, Int.not_lt, Int.not_le, Int.ofNat_lt, Int.ofNat_le, Int.natCast_inj] at hg')))
 | refine Awp.seq ?_)
    all_goals repeat' (first | exact Lower.int (by first | rfl | (simp only [true_and, Bool.true_and, Bool.false_and, Bool.and_true, Bool.and_false, Bool.true_or, Bool.false_or, reduceIte, Bool.false_eq_true, *]; done) | (simp only [true_and, reduceIte, Bool.false_eq_true, *] <;> rfl) | (simp [true_and]; done) | (simp_all [true_and]; done) | omega))
end Go.Proofs
namespace Go.Proofs
open Go Go.Ab
set_option maxHeartbeats 8000000
set_option maxRecDepth 100000
theorem nan60 (x : Int) (w : World) : Calls Tryz.prog 60 #[.int .i64 x] w fun e w' => e = .returned (.bool false) ∧ w' = w := by
  go_enter Tryz.func60, Tryz.ntmps60
  go_wp2
  go_ret
  exact ⟨by simp, rfl⟩
theorem pure_one {P : Program} {f : FuncId} {x v : Value} (hc : Callable P f) (h : ∀ w, Calls P f #[x] w fun e w' => e = .returned v ∧ w' = w) : Go.Ab.Pure P f [.v x] (.v v) := by
  refine ⟨hc, fun ok w cs ha => ?_⟩
  obtain ⟨hl, hv⟩ := ha
  match cs, hl with
  | [a], _ =>
    have h1 := hv 0 (by simp)
    simp only [av_zero, cv, List.getD_cons_zero] at h1
    cases h1
    refine (h w).mono fun e w' ⟨he, hw⟩ => ⟨v, he, ?_, .v _⟩
    subst hw
    exact ⟨rfl, rfl, rfl, Nat.le_refl _, fun _ _ => rfl⟩
theorem nanI_ok (x : Int) : Go.Ab.Pure Tryz.prog 60 [.v (.int .i64 x)] (.v (.bool false)) := pure_one ⟨_, Tryz.func60, by kernel_rfl, by kernel_rfl⟩ (nan60 x)
attribute [local irreducible] Awp aops aopsL Go.Ab.Pure PureOwn PureTwoM
def cmpI (a b : Int) : Int := if a < b then -1 else if b < a then 1 else 0
theorem cmpI_ok (a b : Int) : Pure Tryz.prog 36 [.v (.int .i64 a), .v (.int .i64 b)] (.v (.int .i64 (cmpI a b))) := by
  have c0 := nanI_ok a
  have c1 := nanI_ok b
  unfold cmpI
  by_cases h1 : a < b
  · rw [if_pos h1]
    refine fn_pure Tryz.F36 (Nat.le_of_ble_eq_true rfl) ?_; unfold Tryz.ac36 AR AM AO
    repeat' (first
 | (apply Awp.sreg; (case hn => (simp only [List.length_cons, List.length_nil, Nat.reduceAdd] <;> rfl)))
 | (refine st_nil ?_)
 | (apply st_a; (case hc => rfl); (case he => (simp only [go_sem, *] <;> rfl)); (case hu => (simp only [updL_nil, updL_cons] <;> rfl)); (case hp => first | trivial))
 | (apply st_c; (case hc => (simp only [go_sem, *] <;> rfl)); (case hl => (simp only [go_sem, *] <;> rfl)); (case hn => (simp only [go_sem, *] <;> rfl)); (case hp => first | exact c0 | (have hXz := c0; simp only [go_sem, *] at hXz; exact hXz)))
 | (apply st_c; (case hc => (simp only [go_sem, *] <;> rfl)); (case hl => (simp only [go_sem, *] <;> rfl)); (case hn => (simp only [go_sem, *] <;> rfl)); (case hp => first | exact c1 | (have hXz := c1; simp only [go_sem, *] at hXz; exact hXz)))
 | (refine Awp.ret ?_; try simp only [go_sem, *])
 | (refine Awp.skip ?_; try simp only [go_sem, *])
 | (apply Awp.cond; (case hc => (simp only [go_sem, *] <;> rfl)); all_goals (intro hg; (try simp only [Bool.not_true, Bool.not_false, reduceCtorEq] at hg); (try have hg' := hg); (try simp only [decide_eq_true_eq, decide_eq_false_iff_not, Bool.and_eq_true, Bool.or_eq_false_iff, bne_iff_ne, bne_eq_false_iff_eq, beq_iff_eq, beq_eq_false_iff_ne, Int.not_lt, Int.not_le, Int.ofNat_lt, Int.ofNat_le, Int.natCast_inj] at hg')))
 | refine Awp.seq ?_)
    all_goals repeat' (first | exact Lower.int (by first | rfl | (simp only [true_and, Bool.true_and, Bool.false_and, Bool.and_true, Bool.and_false, Bool.true_or, Bool.false_or, reduceIte, Bool.false_eq_true, *]; done) | (simp only [true_and, reduceIte, Bool.false_eq_true, *] <;> rfl) | (simp [true_and]; done) | (simp_all [true_and]; done) | omega))
  · rw [if_neg h1]
    by_cases h2 : b < a
    · rw [if_pos h2]
      refine fn_pure Tryz.F36 (Nat.le_of_ble_eq_true rfl) ?_; unfold Tryz.ac36 AR AM AO
      repeat' (first
 | (apply Awp.sreg; (case hn => (simp only [List.length_cons, List.length_nil, Nat.reduceAdd] <;> rfl)))
 | (refine st_nil ?_)
 | (apply st_a; (case hc => rfl); (case he => (simp only [go_sem, *] <;> rfl)); (case hu => (simp only [updL_nil, updL_cons] <;> rfl)); (case hp => first | trivial))
 | (apply st_c; (case hc => (simp only [go_sem, *] <;> rfl)); (case hl => (simp only [go_sem, *] <;> rfl)); (case hn => (simp only [go_sem, *] <;> rfl)); (case hp => first | exact c0 | (have hXz := c0; simp only [go_sem, *] at hXz; exact hXz)))
 | (apply st_c; (case hc => (simp only [go_sem, *] <;> rfl)); (case hl => (simp only [go_sem, *] <;> rfl)); (case hn => (simp only [go_sem, *] <;> rfl)); (case hp => first | exact c1 | (have hXz := c1; simp only [go_sem, *] at hXz; exact hXz)))
 | (refine Awp.ret ?_; try simp only [go_sem, *])
 | (refine Awp.skip ?_; try simp only [go_sem, *])
 | (apply Awp.cond; (case hc => (simp only [go_sem, *] <;> rfl)); all_goals (intro hg; (try simp only [Bool.not_true, Bool.not_false, reduceCtorEq] at hg); (try have hg' := hg); (try simp only [decide_eq_true_eq, decide_eq_false_iff_not, Bool.and_eq_true, Bool.or_eq_false_iff, bne_iff_ne, bne_eq_false_iff_eq, beq_iff_eq, beq_eq_false_iff_ne, Int.not_lt, Int.not_le, Int.ofNat_lt, Int.ofNat_le, Int.natCast_inj] at hg')))
 | refine Awp.seq ?_)
      all_goals repeat' (first | exact Lower.int (by first | rfl | (simp only [true_and, Bool.true_and, Bool.false_and, Bool.and_true, Bool.and_false, Bool.true_or, Bool.false_or, reduceIte, Bool.false_eq_true, *]; done) | (simp only [true_and, reduceIte, Bool.false_eq_true, *] <;> rfl) | (simp [true_and]; done) | (simp_all [true_and]; done) | omega))
    · rw [if_neg h2]
      refine fn_pure Tryz.F36 (Nat.le_of_ble_eq_true rfl) ?_; unfold Tryz.ac36 AR AM AO
      repeat' (first
 | (apply Awp.sreg; (case hn => (simp only [List.length_cons, List.length_nil, Nat.reduceAdd] <;> rfl)))
 | (refine st_nil ?_)
 | (apply st_a; (case hc => rfl); (case he => (simp only [go_sem, *] <;> rfl)); (case hu => (simp only [updL_nil, updL_cons] <;> rfl)); (case hp => first | trivial))
 | (apply st_c; (case hc => (simp only [go_sem, *] <;> rfl)); (case hl => (simp only [go_sem, *] <;> rfl)); (case hn => (simp only [go_sem, *] <;> rfl)); (case hp => first | exact c0 | (have hXz := c0; simp only [go_sem, *] at hXz; exact hXz)))
 | (apply st_c; (case hc => (simp only [go_sem, *] <;> rfl)); (case hl => (simp only [go_sem, *] <;> rfl)); (case hn => (simp only [go_sem, *] <;> rfl)); (case hp => first | exact c1 | (have hXz := c1; simp only [go_sem, *] at hXz; exact hXz)))
 | (refine Awp.ret ?_; try simp only [go_sem, *])
 | (refine Awp.skip ?_; try simp only [go_sem, *])
 | (apply Awp.cond; (case hc => (simp only [go_sem, *] <;> rfl)); all_goals (intro hg; (try simp only [Bool.not_true, Bool.not_false, reduceCtorEq] at hg); (try have hg' := hg); (try simp only [decide_eq_true_eq, decide_eq_false_iff_not, Bool.and_eq_true, Bool.or_eq_false_iff, bne_iff_ne, bne_eq_false_iff_eq, beq_iff_eq, beq_eq_false_iff_ne, Int.not_lt, Int.not_le, Int.ofNat_lt, Int.ofNat_le, Int.natCast_inj] at hg')))
 | refine Awp.seq ?_)
      all_goals repeat' (first | exact Lower.int (by first | rfl | (simp only [true_and, Bool.true_and, Bool.false_and, Bool.and_true, Bool.and_false, Bool.true_or, Bool.false_or, reduceIte, Bool.false_eq_true, *]; done) | (simp only [true_and, reduceIte, Bool.false_eq_true, *] <;> rfl) | (simp [true_and]; done) | (simp_all [true_and]; done) | omega))
theorem clos35 (x y : Sty) : Pure Tryz.prog 35 [x.av, y.av] (.v (.int .i64 (cmpI x.b y.b))) := by
  have c0 := cmpI_ok x.b y.b
  generalize cmpI x.b y.b = R at *
  refine fn_pure Tryz.F35 (Nat.le_of_ble_eq_true rfl) ?_; unfold Tryz.ac35 AR AM AO
  repeat' (first
 | (apply Awp.sreg; (case hn => (simp only [List.length_cons, List.length_nil, Nat.reduceAdd] <;> rfl)))
 | (refine st_nil ?_)
 | (apply st_a; (case hc => rfl); (case he => (simp only [go_sem, *] <;> rfl)); (case hu => (simp only [updL_nil, updL_cons] <;> rfl)); (case hp => first | trivial))
 | (apply st_c; (case hc => (simp only [go_sem, *] <;> rfl)); (case hl => (simp only [go_sem, *] <;> rfl)); (case hn => (simp only [go_sem, *] <;> rfl)); (case hp => first | exact c0 | (have hXz := c0; simp only [go_sem, *] at hXz; exact hXz)))
 | (refine Awp.ret ?_; try simp only [go_sem, *]))
  all_goals repeat' (first | exact Lower.int (by first | rfl | (simp only [true_and, Bool.true_and, Bool.false_and, Bool.and_true, Bool.and_false, Bool.true_or, Bool.false_or, reduceIte, Bool.false_eq_true, *]; done) | (simp only [true_and, reduceIte, Bool.false_eq_true, *] <;> rfl) | (simp [true_and]; done) | (simp_all [true_and]; done) | omega))
def stepX (m x : Sty) : Sty := if decide (0 < cmpI x.b m.b) = true then x else m
def maxS (l : List Sty) (i : Nat) : Sty := (l.take i).foldl stepX (l.getD 0 zeroSty)
theorem maxS_step (l : List Sty) (i : Nat) (h : i < l.length) : maxS l (i + 1) = stepX (maxS l i) (l.getD i zeroSty) := by
  unfold maxS
  rw [take_snoc l zeroSty i h, List.foldl_append]; rfl
theorem maxS_one (l : List Sty) (h : 0 < l.length) : maxS l 1 = l.getD 0 zeroSty := by
  rw [maxS_step l 0 h]
  have e : maxS l 0 = l.getD 0 zeroSty := rfl
  rw [e]
  unfold stepX
  split <;> rfl
theorem maxf_ok (l : List Sty) (h0 : 0 < l.length) (hl : l.length < 1000000) : Pure Tryz.prog 34 [.sl (stys l), .fn 35 []] (maxS l l.length).av := by
  have hat0 := stys_at l 0 h0
  have hz0 : ((l.getD 0 zeroSty).cells).length = 8 := rfl
  have hlp : ¬ (l.length : Int) < 1 := by omega
  have hp0 : (0 : Int) < l.length := by omega
  have hb1 := maxS_one l h0
  refine fn_pure Tryz.F34 (Nat.le_of_ble_eq_true rfl) ?_; unfold Tryz.ac34 AR AM AO
  repeat' (first
 | (apply Awp.sreg; (case hn => (simp only [List.length_cons, List.length_nil, Nat.reduceAdd] <;> rfl)))
 | (refine st_nil ?_)
 | (apply st_a; (case hc => rfl); (case he => (simp only [go_sem, *] <;> rfl)); (case hu => (simp only [updL_nil, updL_cons] <;> rfl)); (case hp => first | trivial))
 | (refine Awp.skip ?_; try simp only [go_sem, *])
 | refine Awp.block ?_
 | (apply Awp.cond; (case hc => (simp only [go_sem, *] <;> rfl)); all_goals (intro hg; (try simp only [Bool.not_true, Bool.not_false, reduceCtorEq] at hg)))
 | refine Awp.seq ?_)
  refine Awp.loop (fun i : Nat => 1 ≤ i ∧ i ≤ l.length) 60 (fun i => mkS [(0, .sl (stys l)), (1, .fn 35 []), (4, .bp 0 0), (5, .bp 1 0), (6, .v (.int .i64 i))] [(0, .box [.v (.string ⟨⟨[]⟩⟩), .v (.string ⟨⟨[]⟩⟩), .v (.int .i64 0), .v (.int .i64 0), .v (.int .i64 0), .v (.int .i64 0), .v (.int .i64 0), .v (.int .i64 0)]), (1, .box (maxS l i).cells)]) (fun i => l.length - i) 1 (by omega) ?_ ?_
  · rw [hb1]
    (apply Ghost.mk [(0, 0), (1, 7)] []; (case hdead => rfl); (case hinj => rfl); (case hV => (simp only [go_sem, *]) <;> (repeat' (first | refine And.intro ?_ ?_ | exact View.int (by first | rfl | omega | (simp; done) | (rw [wrap_i64] <;> (try simp only [Int.natCast_add]) <;> omega) | (simp [*]; done)) | exact .bp rfl (by decide) | (refine View.fnF ?_; (simp [AV.flat]; done))))); (case hB => (simp only [go_sem, *]) <;> (repeat' (first | refine And.intro ?_ ?_ | exact ⟨_, rfl, BView.boxF rfl⟩))))
  · intro i ⟨h1, hi⟩
    by_cases hlt : i < l.length
    · have hlt' : (i : Int) < l.length := by omega
      have hat := stys_at l i hlt
      have hz : ((l.getD i zeroSty).cells).length = 8 := rfl
      have hs := maxS_step l i hlt
      clear hat0 hz0 hb1
      generalize maxS l i = M at *
      generalize l.getD i zeroSty = x at *
      have c1 := clos35 x M
      unfold stepX at hs
      generalize cmpI x.b M.b = k at *
      cases hk : decide (0 < k)
      · rw [hk, if_neg (by decide)] at hs
        repeat' (first
 | (apply Awp.sreg; (case hn => (simp only [List.length_cons, List.length_nil, Nat.reduceAdd] <;> rfl)))
 | (apply Awp.sdraw; (case hn => (simp only [List.length_cons, List.length_nil, Nat.reduceAdd] <;> rfl)))
 | (refine st_nil ?_)
 | (apply st_a; (case hc => rfl); (case he => (simp only [go_sem, *] <;> rfl)); (case hu => (simp only [updL_nil, updL_cons] <;> rfl)); (case hp => first | trivial))
 | (apply Awp.reg; (case hn => (simp only [List.length_cons, List.length_nil, Nat.reduceAdd] <;> rfl)))
 | (refine Awp.skip ?_; try simp only [go_sem, *])
 | refine Awp.block ?_
 | (apply Awp.cond; (case hc => (simp only [go_sem, *] <;> rfl)); all_goals (intro hg; (try simp only [Bool.not_true, Bool.not_false, reduceCtorEq] at hg)))
 | refine Awp.seq ?_
 | (apply sl_a; (case hc => rfl); (case he => (simp only [go_sem, *] <;> rfl)); (case hu => (simp only [updL_nil, updL_cons] <;> rfl)); (case hl => (simp only [List.map_cons, List.map_nil] <;> rfl)); (case hp => first | trivial | omega))
 | (apply sl_c; (case hc => (simp only [go_sem, *] <;> rfl)); (case hl => (simp only [go_sem, *] <;> rfl)); (case hn => (simp only [go_sem, *] <;> rfl)); (case hp => first | exact c1 | (have hXz := c1; simp only [go_sem, *] at hXz; exact hXz)); (case hd => first | exact .inl rfl | exact .inr (.v _) | exact .inr .any | exact .inr .nils | (refine .inr ?_; (repeat' (first | exact Dry.v _ | exact Dry.any | exact Dry.nils | exact Dry.slE | refine Dry.agg ?_ | refine Dry.tup ?_ | (refine List.forall_mem_cons.2 (And.intro ?_ ?_)) | (intro cQ hQ; cases hQ; done))); done)); (case hm => first | decide | (simp; done)))
 | (refine sl_nil (And.intro (by first | exact drawOk_of (by decide +kernel) | (simp only [List.map_cons, List.map_nil]; exact drawOk_of (by decide +kernel)) | decide) ?_)))
        all_goals (refine ⟨i + 1, by omega, by omega, ?_⟩; rw [hs]; clear hs c1; (apply Ghost.mk [(0, 0), (1, 1)] []; (case hdead => rfl); (case hinj => rfl); (case hV => (simp only [go_sem, *]) <;> (repeat' (first | refine And.intro ?_ ?_ | exact View.int (by first | rfl | omega | (simp; done) | (rw [wrap_i64] <;> (try simp only [Int.natCast_add]) <;> omega) | (simp [*]; done)) | exact .bp rfl (by decide) | (refine View.fnF ?_; (simp [AV.flat]; done))))); (case hB => (simp only [go_sem, *]) <;> (repeat' (first | refine And.intro ?_ ?_ | exact ⟨_, rfl, BView.boxF rfl⟩)))))
      · rw [hk, if_pos rfl] at hs
        repeat' (first
 | (apply Awp.sreg; (case hn => (simp only [List.length_cons, List.length_nil, Nat.reduceAdd] <;> rfl)))
 | (apply Awp.sdraw; (case hn => (simp only [List.length_cons, List.length_nil, Nat.reduceAdd] <;> rfl)))
 | (refine st_nil ?_)
 | (apply st_a; (case hc => rfl); (case he => (simp only [go_sem, *] <;> rfl)); (case hu => (simp only [updL_nil, updL_cons] <;> rfl)); (case hp => first | trivial | omega))
 | (apply Awp.reg; (case hn => (simp only [List.length_cons, List.length_nil, Nat.reduceAdd] <;> rfl)))
 | (refine Awp.skip ?_; try simp only [go_sem, *])
 | refine Awp.block ?_
 | (apply Awp.cond; (case hc => (simp only [go_sem, *] <;> rfl)); all_goals (intro hg; (try simp only [Bool.not_true, Bool.not_false, reduceCtorEq] at hg)))
 | refine Awp.seq ?_
 | (apply sl_a; (case hc => rfl); (case he => (simp only [go_sem, *] <;> rfl)); (case hu => (simp only [updL_nil, updL_cons] <;> rfl)); (case hl => (simp only [List.map_cons, List.map_nil] <;> rfl)); (case hp => first | trivial | omega))
 | (apply sl_c; (case hc => (simp only [go_sem, *] <;> rfl)); (case hl => (simp only [go_sem, *] <;> rfl)); (case hn => (simp only [go_sem, *] <;> rfl)); (case hp => first | exact c1 | (have hXz := c1; simp only [go_sem, *] at hXz; exact hXz)); (case hd => first | exact .inl rfl | exact .inr (.v _) | exact .inr .any | exact .inr .nils | (refine .inr ?_; (repeat' (first | exact Dry.v _ | exact Dry.any | exact Dry.nils | exact Dry.slE | refine Dry.agg ?_ | refine Dry.tup ?_ | (refine List.forall_mem_cons.2 (And.intro ?_ ?_)) | (intro cQ hQ; cases hQ; done))); done)); (case hm => first | decide | (simp; done)))
 | (refine sl_nil (And.intro (by first | exact drawOk_of (by decide +kernel) | (simp only [List.map_cons, List.map_nil]; exact drawOk_of (by decide +kernel)) | decide) ?_)))
        all_goals (refine ⟨i + 1, by omega, by omega, ?_⟩; rw [hs]; clear hs c1; (apply Ghost.mk [(0, 0), (1, 1)] []; (case hdead => rfl); (case hinj => rfl); (case hV => (simp only [go_sem, *]) <;> (repeat' (first | refine And.intro ?_ ?_ | exact View.int (by first | rfl | omega | (simp; done) | (rw [wrap_i64] <;> (try simp only [Int.natCast_add]) <;> omega) | (simp [*]; done)) | exact .bp rfl (by decide) | (refine View.fnF ?_; (simp [AV.flat]; done))))); (case hB => (simp only [go_sem, *]) <;> (repeat' (first | refine And.intro ?_ ?_ | exact ⟨_, rfl, BView.boxF rfl⟩)))))
    · have hlt' : ¬ (i : Int) < l.length := by omega
      obtain rfl : i = l.length := by omega
      clear hat0 hz0 hb1
      generalize maxS l l.length = M at *
      repeat' (first
 | (apply Awp.sreg; (case hn => (simp only [List.length_cons, List.length_nil, Nat.reduceAdd] <;> rfl)))
 | (refine st_nil ?_)
 | (apply st_a; (case hc => rfl); (case he => (simp only [go_sem, *] <;> rfl)); (case hu => (simp only [updL_nil, updL_cons] <;> rfl)); (case hp => first | trivial))
 | (refine Awp.ret ?_; try simp only [go_sem, *])
 | (refine Awp.exit ?_; try simp only [go_sem, *])
 | (apply Awp.cond; (case hc => (simp only [go_sem, *] <;> rfl)); all_goals (intro hg; (try simp only [Bool.not_true, Bool.not_false, reduceCtorEq] at hg)))
 | refine Awp.seq ?_)
      all_goals repeat' (first | exact Lower.int (by first | rfl | (simp only [true_and, Bool.true_and, Bool.false_and, Bool.and_true, Bool.and_false, Bool.true_or, Bool.false_or, reduceIte, Bool.false_eq_true, *]; done) | (simp only [true_and, reduceIte, Bool.false_eq_true, *] <;> rfl) | (simp [true_and]; done) | (simp_all [true_and]; done) | omega) | exact Lower.str (by first | rfl | (simp only [true_and, Bool.true_and, Bool.false_and, Bool.and_true, Bool.and_false, Bool.true_or, Bool.false_or, reduceIte, Bool.false_eq_true, *]; done) | (simp only [true_and, reduceIte, Bool.false_eq_true, *] <;> rfl) | (simp [true_and]; done) | (simp_all [true_and]; done) | omega) | refine Lower.aggF ?_ | refine All2.cons ?_ ?_ | exact All2.nil)
def spanE (l : List Sty) : Int := if l.length = 0 then 0 else (maxS l l.length).b
theorem span_ok (l : List Sty) (hl : l.length < 1000000) : Pure Tryz.prog 22 [.sl (stys l)] (.v (.int .i64 (spanE l))) := by
  unfold spanE
  by_cases h0 : l.length = 0
  · rw [if_pos h0]
    have h0' : ((l.length : Int) == 0) = true := by rw [beq_iff_eq]; omega
    clear h0
    refine fn_pure Tryz.F22 (Nat.le_of_ble_eq_true rfl) ?_; unfold Tryz.ac22 AR AM AO
    repeat' (first
 | (apply Awp.sreg; (case hn => (simp only [List.length_cons, List.length_nil, Nat.reduceAdd] <;> rfl)))
 | (refine st_nil ?_)
 | (apply st_a; (case hc => rfl); (case he => (simp only [go_sem, *] <;> rfl)); (case hu => (simp only [updL_nil, updL_cons] <;> rfl)); (case hp => first | trivial))
 | (refine Awp.ret ?_; try simp only [go_sem, *])
 | (apply Awp.cond; (case hc => (simp only [go_sem, *] <;> rfl)); all_goals (intro hg; (try simp only [Bool.not_true, Bool.not_false, reduceCtorEq] at hg); (try have hg' := hg); (try simp only [decide_eq_true_eq, decide_eq_false_iff_not, Bool.and_eq_true, Bool.or_eq_false_iff, bne_iff_ne, bne_eq_false_iff_eq, beq_iff_eq, beq_eq_false_iff_ne, Int.not_lt, Int.not_le, Int.ofNat_lt, Int.ofNat_le, Int.natCast_inj] at hg')))
 | refine Awp.seq ?_)
    all_goals repeat' (first | exact Lower.int (by first | rfl | (simp only [true_and, Bool.true_and, Bool.false_and, Bool.and_true, Bool.and_false, Bool.true_or, Bool.false_or, reduceIte, Bool.false_eq_true, *]; done) | (simp only [true_and, reduceIte, Bool.false_eq_true, *] <;> rfl) | (simp [true_and]; done) | (simp_all [true_and]; done) | omega))
  · rw [if_neg h0]
    have h0' : ((l.length : Int) == 0) = false := by rw [beq_eq_false_iff_ne]; omega
    have c0 := maxf_ok l (by omega) hl
    generalize maxS l l.length = M at *
    refine fn_pure Tryz.F22 (Nat.le_of_ble_eq_true rfl) ?_; unfold Tryz.ac22 AR AM AO
    repeat' (first
 | (apply Awp.sreg; (case hn => (simp only [List.length_cons, List.length_nil, Nat.reduceAdd] <;> rfl)))
 | (refine st_nil ?_)
 | (apply st_a; (case hc => rfl); (case he => (simp only [go_sem, *] <;> rfl)); (case hu => (simp only [updL_nil, updL_cons] <;> rfl)); (case hp => first | trivial))
 | (apply st_c; (case hc => (simp only [go_sem, *] <;> rfl)); (case hl => (simp only [go_sem, *] <;> rfl)); (case hn => (simp only [go_sem, *] <;> rfl)); (case hp => first | exact c0 | (have hXz := c0; simp only [go_sem, *] at hXz; exact hXz)))
 | (refine Awp.ret ?_; try simp only [go_sem, *])
 | (refine Awp.skip ?_; try simp only [go_sem, *])
 | (apply Awp.cond; (case hc => (simp only [go_sem, *] <;> rfl)); all_goals (intro hg; (try simp only [Bool.not_true, Bool.not_false, reduceCtorEq] at hg); (try have hg' := hg); (try simp only [decide_eq_true_eq, decide_eq_false_iff_not, Bool.and_eq_true, Bool.or_eq_false_iff, bne_iff_ne, bne_eq_false_iff_eq, beq_iff_eq, beq_eq_false_iff_ne, Int.not_lt, Int.not_le, Int.ofNat_lt, Int.ofNat_le, Int.natCast_inj] at hg')))
 | refine Awp.seq ?_)
    all_goals repeat' (first | exact Lower.int (by first | rfl | (simp only [true_and, Bool.true_and, Bool.false_and, Bool.and_true, Bool.and_false, Bool.true_or, Bool.false_or, reduceIte, Bool.false_eq_true, *]; done) | (simp only [true_and, reduceIte, Bool.false_eq_true, *] <;> rfl) | (simp [true_and]; done) | (simp_all [true_and]; done) | omega))
end Go.Proofs
namespace Go.Proofs
open Go Go.Ab
set_option maxHeartbeats 8000000
set_option maxRecDepth 100000
attribute [local irreducible] Awp aops aopsL Go.Ab.Pure PureOwn PureTwoM
def rsF (l : List Sty) : Nat → Int
  | 0 => 0
  | i + 1 => if (((i : Int) == 0) || decide (rsF l i < (l.getD i zeroSty).b)) = true then (l.getD i zeroSty).b else rsF l i
theorem rsF_max (l : List Sty) : ∀ i, i < l.length → rsF l (i + 1) = (maxS l (i + 1)).b
  | 0, h => by rw [maxS_one l h]; rfl
  | i + 1, h => by
    have ih := rsF_max l i (by omega)
    have e0 : (((i + 1 : Nat) : Int) == 0) = false := by rw [beq_eq_false_iff_ne]; omega
    have e : rsF l (i + 1 + 1) = if ((((i + 1 : Nat) : Int) == 0) || decide (rsF l (i + 1) < (l.getD (i + 1) zeroSty).b)) = true then (l.getD (i + 1) zeroSty).b else rsF l (i + 1) := rfl
    rw [e, e0, Bool.false_or, ih, maxS_step l (i + 1) h]
    generalize maxS l (i + 1) = M
    generalize l.getD (i + 1) zeroSty = x
    unfold stepX cmpI
    by_cases h1 : M.b < x.b
    · rw [decide_eq_true h1, if_pos rfl, if_neg (show ¬ x.b < M.b by omega), if_pos h1, if_pos (by decide)]
    · rw [decide_eq_false h1, if_neg (by decide)]
      by_cases h2 : x.b < M.b
      · rw [if_pos h2, if_neg (by decide)]
      · rw [if_neg h2, if_neg h1, if_neg (by decide)]
theorem rsF_span (l : List Sty) : rsF l l.length = spanE l := by
  unfold spanE
  split
  · rename_i h; rw [h]; rfl
  · rename_i h
    obtain ⟨i, hi⟩ : ∃ i, l.length = i + 1 := ⟨l.length - 1, by omega⟩
    have := rsF_max l i (by omega)
    rw [← hi] at this
    exact this
theorem rspan_ok (l : List Sty) (hl : l.length < 1000000) : Pure Tryz.prog 23 [.sl (stys l)] (.v (.int .i64 (spanE l))) := by
  have hfin := rsF_span l
  generalize spanE l = R at *
  refine fn_pure Tryz.F23 (Nat.le_of_ble_eq_true rfl) ?_; unfold Tryz.ac23 AR AM AO
  repeat' (first
 | (apply Awp.sreg; (case hn => (simp only [List.length_cons, List.length_nil, Nat.reduceAdd] <;> rfl)))
 | (refine st_nil ?_)
 | (apply st_a; (case hc => rfl); (case he => (simp only [go_sem, *] <;> rfl)); (case hu => (simp only [updL_nil, updL_cons] <;> rfl)); (case hp => first | trivial))
 | refine Awp.block ?_
 | refine Awp.seq ?_)
  refine Awp.loop (fun i : Nat => i ≤ l.length) 60 (fun i => mkS [(0, .sl (stys l)), (3, .v (.int .i64 (rsF l i))), (4, .v (.int .i64 i))] []) (fun i => l.length - i) 0 (Nat.zero_le _) ?_ ?_
  · have e1 : rsF l 0 = 0 := rfl
    rw [e1]
    clear hfin
    (apply Ghost.mk [] []; (case hdead => rfl); (case hinj => rfl); (case hV => (simp only [go_sem, *]) <;> (repeat' (first | exact View.int (by first | rfl | omega | (simp; done) | (rw [wrap_i64] <;> (try simp only [Int.natCast_add]) <;> omega) | (simp [*]; done))))); (case hB => (simp only [go_sem, *]) <;> (repeat' (first | skip; done))))
  · intro i hi
    by_cases hlt : i < l.length
    · have hlt' : (i : Int) < l.length := by omega
      have hat := stys_at l i hlt
      have hz : ((l.getD i zeroSty).cells).length = 8 := rfl
      have hst : rsF l (i + 1) = if (((i : Int) == 0) || decide (rsF l i < (l.getD i zeroSty).b)) = true then (l.getD i zeroSty).b else rsF l i := rfl
      clear hfin
      generalize rsF l i = n at *
      cases h0 : ((i : Int) == 0)
      · rw [h0, Bool.false_or] at hst
        cases h1 : decide (n < (l.getD i zeroSty).b)
        · rw [h1, if_neg (by decide)] at hst
          repeat' (first
 | (apply Awp.sreg; (case hn => (simp only [List.length_cons, List.length_nil, Nat.reduceAdd] <;> rfl)))
 | (refine st_nil ?_)
 | (apply st_a; (case hc => rfl); (case he => (simp only [go_sem, *] <;> rfl)); (case hu => (simp only [updL_nil, updL_cons] <;> rfl)); (case hp => first | trivial))
 | (apply st_m; (case hc => rfl); (case hg => (simp only [go_sem, *] <;> rfl)); (case he => (intro hQz; (try simp only [wantB_t, wantB_f, Bool.and_eq_true, Bool.not_eq_true', Bool.not_true, Bool.not_false, and_true, true_and] at hQz); simp only [go_sem, *] <;> rfl)); (case hp => (intro hQz; (try simp only [wantB_t, wantB_f, Bool.and_eq_true, Bool.not_eq_true', Bool.or_eq_false_iff, decide_eq_true_eq, decide_eq_false_iff_not, beq_iff_eq, beq_eq_false_iff_ne, bne_iff_ne, bne_eq_false_iff_eq, Int.not_lt, Int.not_le, Int.ofNat_lt, Int.ofNat_le] at hQz); first | trivial | omega)))
 | (apply Awp.reg; (case hn => (simp only [List.length_cons, List.length_nil, Nat.reduceAdd] <;> rfl)))
 | (refine Awp.skip ?_; try simp only [go_sem, *])
 | refine Awp.block ?_
 | (apply Awp.cond; (case hc => (simp only [go_sem, *] <;> rfl)); all_goals (intro hg; (try simp only [Bool.not_true, Bool.not_false, reduceCtorEq] at hg)))
 | refine Awp.seq ?_)
          refine ⟨i + 1, by omega, by omega, ?_⟩
          (apply Ghost.mk [] []; (case hdead => rfl); (case hinj => rfl); (case hV => (simp only [go_sem, *]) <;> (repeat' (first | exact View.int (by first | rfl | omega | (simp; done) | (rw [wrap_i64] <;> (try simp only [Int.natCast_add]) <;> omega) | (simp [*]; done))))); (case hB => (simp only [go_sem, *]) <;> (repeat' (first | skip; done))))
        · rw [h1, if_pos rfl] at hst
          repeat' (first
 | (apply Awp.sreg; (case hn => (simp only [List.length_cons, List.length_nil, Nat.reduceAdd] <;> rfl)))
 | (refine st_nil ?_)
 | (apply st_a; (case hc => rfl); (case he => (simp only [go_sem, *] <;> rfl)); (case hu => (simp only [updL_nil, updL_cons] <;> rfl)); (case hp => first | trivial | omega))
 | (apply st_m; (case hc => rfl); (case hg => (simp only [go_sem, *] <;> rfl)); (case he => (intro hQz; (try simp only [wantB_t, wantB_f, Bool.and_eq_true, Bool.not_eq_true', Bool.not_true, Bool.not_false, and_true, true_and] at hQz); simp only [go_sem, *] <;> rfl)); (case hp => (intro hQz; (try simp only [wantB_t, wantB_f, Bool.and_eq_true, Bool.not_eq_true', Bool.or_eq_false_iff, decide_eq_true_eq, decide_eq_false_iff_not, beq_iff_eq, beq_eq_false_iff_ne, bne_iff_ne, bne_eq_false_iff_eq, Int.not_lt, Int.not_le, Int.ofNat_lt, Int.ofNat_le] at hQz); first | trivial | omega)))
 | (apply Awp.reg; (case hn => (simp only [List.length_cons, List.length_nil, Nat.reduceAdd] <;> rfl)))
 | (refine Awp.skip ?_; try simp only [go_sem, *])
 | refine Awp.block ?_
 | (apply Awp.cond; (case hc => (simp only [go_sem, *] <;> rfl)); all_goals (intro hg; (try simp only [Bool.not_true, Bool.not_false, reduceCtorEq] at hg)))
 | refine Awp.seq ?_)
          refine ⟨i + 1, by omega, by omega, ?_⟩
          (apply Ghost.mk [] []; (case hdead => rfl); (case hinj => rfl); (case hV => (simp only [go_sem, *]) <;> (repeat' (first | exact View.int (by first | rfl | omega | (simp; done) | (rw [wrap_i64] <;> (try simp only [Int.natCast_add]) <;> omega) | (simp [*]; done))))); (case hB => (simp only [go_sem, *]) <;> (repeat' (first | skip; done))))
      · rw [h0, Bool.true_or, if_pos rfl] at hst
        repeat' (first
 | (apply Awp.sreg; (case hn => (simp only [List.length_cons, List.length_nil, Nat.reduceAdd] <;> rfl)))
 | (refine st_nil ?_)
 | (apply st_a; (case hc => rfl); (case he => (simp only [go_sem, *] <;> rfl)); (case hu => (simp only [updL_nil, updL_cons] <;> rfl)); (case hp => first | trivial | omega))
 | (apply st_m; (case hc => rfl); (case hg => (simp only [go_sem, *] <;> rfl)); (case he => (intro hQz; (try simp only [wantB_t, wantB_f, Bool.and_eq_true, Bool.not_eq_true', Bool.not_true, Bool.not_false, and_true, true_and] at hQz); simp only [go_sem, *] <;> rfl)); (case hp => (intro hQz; (try simp only [wantB_t, wantB_f, Bool.and_eq_true, Bool.not_eq_true', Bool.or_eq_false_iff, decide_eq_true_eq, decide_eq_false_iff_not, beq_iff_eq, beq_eq_false_iff_ne, bne_iff_ne, bne_eq_false_iff_eq, Int.not_lt, Int.not_le, Int.ofNat_lt, Int.ofNat_le] at hQz); first | trivial)))
 | (apply Awp.reg; (case hn => (simp only [List.length_cons, List.length_nil, Nat.reduceAdd] <;> rfl)))
 | (refine Awp.skip ?_; try simp only [go_sem, *])
 | refine Awp.block ?_
 | (apply Awp.cond; (case hc => (simp only [go_sem, *] <;> rfl)); all_goals (intro hg; (try simp only [Bool.not_true, Bool.not_false, reduceCtorEq] at hg)))
 | refine Awp.seq ?_)
        refine ⟨i + 1, by omega, by omega, ?_⟩
        (apply Ghost.mk [] []; (case hdead => rfl); (case hinj => rfl); (case hV => (simp only [go_sem, *]) <;> (repeat' (first | exact View.int (by first | rfl | omega | (simp; done) | (rw [wrap_i64] <;> (try simp only [Int.natCast_add]) <;> omega) | (simp [*]; done))))); (case hB => (simp only [go_sem, *]) <;> (repeat' (first | skip; done))))
    · have hlt' : ¬ (i : Int) < l.length := by omega
      obtain rfl : i = l.length := by omega
      rw [hfin]
      clear hfin
      repeat' (first
 | (apply Awp.sreg; (case hn => (simp only [List.length_cons, List.length_nil, Nat.reduceAdd] <;> rfl)))
 | (refine st_nil ?_)
 | (apply st_a; (case hc => rfl); (case he => (simp only [go_sem, *] <;> rfl)); (case hu => (simp only [updL_nil, updL_cons] <;> rfl)); (case hp => first | trivial))
 | (refine Awp.ret ?_; try simp only [go_sem, *])
 | (refine Awp.exit ?_; try simp only [go_sem, *])
 | (apply Awp.cond; (case hc => (simp only [go_sem, *] <;> rfl)); all_goals (intro hg; (try simp only [Bool.not_true, Bool.not_false, reduceCtorEq] at hg)))
 | refine Awp.seq ?_)
      all_goals repeat' (first | exact Lower.int (by first | rfl | (simp only [true_and, Bool.true_and, Bool.false_and, Bool.and_true, Bool.and_false, Bool.true_or, Bool.false_or, reduceIte, Bool.false_eq_true, *]; done) | (simp only [true_and, reduceIte, Bool.false_eq_true, *] <;> rfl) | (simp [true_and]; done) | (simp_all [true_and]; done) | omega))
theorem same04_ok (a : List ByteArray) (ha : a.length < 1000000) : Pure Tryz.prog 15 [.sl (strs a), .sl (strs a)] (.v (.bool true)) := by
  have hne : ((a.length : Int) != a.length) = false := by simp
  refine fn_pure Tryz.F15 (Nat.le_of_ble_eq_true rfl) ?_; unfold Tryz.ac15 AR AM AO
  repeat' (first
 | (apply Awp.sreg; (case hn => (simp only [List.length_cons, List.length_nil, Nat.reduceAdd] <;> rfl)))
 | (refine st_nil ?_)
 | (apply st_a; (case hc => rfl); (case he => (simp only [go_sem, *] <;> rfl)); (case hu => (simp only [updL_nil, updL_cons] <;> rfl)); (case hp => first | trivial))
 | (refine Awp.skip ?_; try simp only [go_sem, *])
 | refine Awp.block ?_
 | (apply Awp.cond; (case hc => (simp only [go_sem, *] <;> rfl)); all_goals (intro hg; (try simp only [Bool.not_true, Bool.not_false, reduceCtorEq] at hg)))
 | refine Awp.seq ?_)
  refine Awp.loop (fun i : Nat => i ≤ a.length) 60 (fun i => mkS [(0, .sl (strs a)), (1, .sl (strs a)), (5, .v (.int .i64 i))] []) (fun i => a.length - i) 0 (Nat.zero_le _) ?_ ?_
  · (apply Ghost.mk [] []; (case hdead => rfl); (case hinj => rfl); (case hV => (simp only [go_sem, *]) <;> (repeat' (first | exact View.int (by first | rfl | omega | (simp; done) | (rw [wrap_i64] <;> (try simp only [Int.natCast_add]) <;> omega) | (simp [*]; done))))); (case hB => (simp only [go_sem, *]) <;> (repeat' (first | skip; done))))
  · intro i hi
    by_cases hlt : i < a.length
    · have hlt' : (i : Int) < a.length := by omega
      have hat := strs_at a i hlt
      generalize a.getD i ⟨#[]⟩ = x at *
      have hx : (x.toList == x.toList) = true := by simp
      repeat' (first
 | (apply Awp.sreg; (case hn => (simp only [List.length_cons, List.length_nil, Nat.reduceAdd] <;> rfl)))
 | (apply Awp.sdraw; (case hn => (simp only [List.length_cons, List.length_nil, Nat.reduceAdd] <;> rfl)))
 | (refine st_nil ?_)
 | (apply st_a; (case hc => rfl); (case he => (simp only [go_sem, *] <;> rfl)); (case hu => (simp only [updL_nil, updL_cons] <;> rfl)); (case hp => first | trivial))
 | (apply Awp.reg; (case hn => (simp only [List.length_cons, List.length_nil, Nat.reduceAdd] <;> rfl)))
 | (refine Awp.skip ?_; try simp only [go_sem, *])
 | refine Awp.block ?_
 | (apply Awp.cond; (case hc => (simp only [go_sem, *] <;> rfl)); all_goals (intro hg; (try simp only [Bool.not_true, Bool.not_false, reduceCtorEq] at hg)))
 | refine Awp.seq ?_
 | (apply sl_a; (case hc => rfl); (case he => (simp only [go_sem, *] <;> rfl)); (case hu => (simp only [updL_nil, updL_cons] <;> rfl)); (case hl => (simp only [List.map_cons, List.map_nil] <;> rfl)); (case hp => first | trivial | omega))
 | (refine sl_nil (And.intro (by first | exact drawOk_of (by decide +kernel) | (simp only [List.map_cons, List.map_nil]; exact drawOk_of (by decide +kernel)) | decide) ?_)))
      refine ⟨i + 1, by omega, by omega, ?_⟩
      (apply Ghost.mk [] []; (case hdead => rfl); (case hinj => rfl); (case hV => (simp only [go_sem, *]) <;> (repeat' (first | exact View.int (by first | rfl | omega | (simp; done) | (rw [wrap_i64] <;> (try simp only [Int.natCast_add]) <;> omega) | (simp [*]; done))))); (case hB => (simp only [go_sem, *]) <;> (repeat' (first | skip; done))))
    · have hlt' : ¬ (i : Int) < a.length := by omega
      repeat' (first
 | (apply Awp.sreg; (case hn => (simp only [List.length_cons, List.length_nil, Nat.reduceAdd] <;> rfl)))
 | (refine st_nil ?_)
 | (apply st_a; (case hc => rfl); (case he => (simp only [go_sem, *] <;> rfl)); (case hu => (simp only [updL_nil, updL_cons] <;> rfl)); (case hp => first | trivial))
 | (refine Awp.ret ?_; try simp only [go_sem, *])
 | (refine Awp.exit ?_; try simp only [go_sem, *])
 | (apply Awp.cond; (case hc => (simp only [go_sem, *] <;> rfl)); all_goals (intro hg; (try simp only [Bool.not_true, Bool.not_false, reduceCtorEq] at hg)))
 | refine Awp.seq ?_)
      all_goals repeat' (first | exact Lower.bool (by first | rfl | (simp only [true_and, Bool.true_and, Bool.false_and, Bool.and_true, Bool.and_false, Bool.true_or, Bool.false_or, reduceIte, Bool.false_eq_true, *]; done) | (simp only [true_and, reduceIte, Bool.false_eq_true, *] <;> rfl) | (simp [true_and]; done) | (simp_all [true_and]; done) | omega))
def bigWk (q : Wk) : Bool := decide ((100 : Int) < q.id.size) || decide ((20 : Int) < q.af.length)
def fewW (l : List Wk) (most : Int) : Bool := decide ((l.length : Int) ≤ most) && l.all fun q => !bigWk q
theorem fewW_bad {l : List Wk} {most : Int} {i : Nat} (hi : i < l.length) (h : bigWk (l.getD i zeroWk) = true) : fewW l most = false := by
  have : (l.all fun q => !bigWk q) = false := by
    rw [List.all_eq_false]
    exact ⟨_, getD_mem zeroWk hi, by simp only [h, Bool.not_true, Bool.false_eq_true, not_false_eq_true]⟩
  unfold fewW
  rw [this, Bool.and_false]
theorem fewW_end {l : List Wk} {most : Int} {i : Nat} (hm : (l.length : Int) ≤ most) (hi : l.length ≤ i) (h : ∀ j, j < i → bigWk (l.getD j zeroWk) = false) : fewW l most = true := by
  unfold fewW
  rw [decide_eq_true hm, Bool.true_and, List.all_eq_true]
  intro x hx
  obtain ⟨j, hj, rfl⟩ := List.getElem_of_mem hx
  have := h j (by omega)
  rw [List.getD_eq_getElem?_getD, List.getElem?_eq_getElem hj, Option.getD_some] at this
  rw [this]; rfl
theorem fewW_ok (l : List Wk) (most : Int) (hl : most < 1000000) : Pure Tryz.prog 9 [.sl (wks l), .v (.int .i64 most)] (.v (.bool (fewW l most))) := by
  by_cases hm : (l.length : Int) ≤ most
  · have hm' : decide (most < (l.length : Int)) = false := decide_eq_false (by omega)
    refine fn_pure Tryz.F9 (Nat.le_of_ble_eq_true rfl) ?_; unfold Tryz.ac9 AR AM AO
    repeat' (first
 | (apply Awp.sreg; (case hn => (simp only [List.length_cons, List.length_nil, Nat.reduceAdd] <;> rfl)))
 | (refine st_nil ?_)
 | (apply st_a; (case hc => rfl); (case he => (simp only [go_sem, *] <;> rfl)); (case hu => (simp only [updL_nil, updL_cons] <;> rfl)); (case hp => first | trivial))
 | (refine Awp.skip ?_; try simp only [go_sem, *])
 | refine Awp.block ?_
 | (apply Awp.cond; (case hc => (simp only [go_sem, *] <;> rfl)); all_goals (intro hg; (try simp only [Bool.not_true, Bool.not_false, reduceCtorEq] at hg)))
 | refine Awp.seq ?_)
    refine Awp.loop (fun i : Nat => i ≤ l.length ∧ ∀ j, j < i → bigWk (l.getD j zeroWk) = false) 60 (fun i => mkS [(0, .sl (wks l)), (5, .v (.int .i64 i))] []) (fun i => l.length - i) 0 (by simp) ?_ ?_
    · (apply Ghost.mk [] []; (case hdead => rfl); (case hinj => rfl); (case hV => (simp only [go_sem, *]) <;> (repeat' (first | exact View.int (by first | rfl | omega | (simp; done) | (rw [wrap_i64] <;> (try simp only [Int.natCast_add]) <;> omega) | (simp [*]; done))))); (case hB => (simp only [go_sem, *]) <;> (repeat' (first | skip; done))))
    · intro i ⟨hi, hj⟩
      by_cases hlt : i < l.length
      · have hlt' : (i : Int) < l.length := by omega
        have hat := wks_at l i hlt
        have hz : ((l.getD i zeroWk).cells).length = 5 := rfl
        cases hb : bigWk (l.getD i zeroWk)
        · have hnx := ltSucc hj hb
          unfold bigWk at hb
          clear hj
          repeat' (first
 | (apply Awp.sreg; (case hn => (simp only [List.length_cons, List.length_nil, Nat.reduceAdd] <;> rfl)))
 | (refine st_nil ?_)
 | (apply st_a; (case hc => rfl); (case he => (simp only [go_sem, *] <;> rfl)); (case hu => (simp only [updL_nil, updL_cons] <;> rfl)); (case hp => first | trivial | omega))
 | (apply st_m; (case hc => rfl); (case hg => (simp only [go_sem, *] <;> rfl)); (case he => (intro hQz; (try simp only [wantB_t, wantB_f, Bool.and_eq_true, Bool.not_eq_true', Bool.not_true, Bool.not_false, and_true, true_and] at hQz); simp only [go_sem, *] <;> rfl)); (case hp => (intro hQz; (try simp only [wantB_t, wantB_f, Bool.and_eq_true, Bool.not_eq_true', Bool.or_eq_false_iff, decide_eq_true_eq, decide_eq_false_iff_not, beq_iff_eq, beq_eq_false_iff_ne, bne_iff_ne, bne_eq_false_iff_eq, Int.not_lt, Int.not_le, Int.ofNat_lt, Int.ofNat_le] at hQz); first | trivial | omega)))
 | (apply Awp.reg; (case hn => (simp only [List.length_cons, List.length_nil, Nat.reduceAdd] <;> rfl)))
 | (refine Awp.skip ?_; try simp only [go_sem, *])
 | refine Awp.block ?_
 | (apply Awp.cond; (case hc => (simp only [go_sem, *] <;> rfl)); all_goals (intro hg; (try simp only [Bool.not_true, Bool.not_false, reduceCtorEq] at hg)))
 | refine Awp.seq ?_)
          refine ⟨i + 1, ⟨by omega, hnx⟩, by omega, ?_⟩
          clear hnx
          (apply Ghost.mk [] []; (case hdead => rfl); (case hinj => rfl); (case hV => (simp only [go_sem, *]) <;> (repeat' (first | exact View.int (by first | rfl | omega | (simp; done) | (rw [wrap_i64] <;> (try simp only [Int.natCast_add]) <;> omega) | (simp [*]; done))))); (case hB => (simp only [go_sem, *]) <;> (repeat' (first | skip; done))))
        · have hf := fewW_bad (most := most) hlt hb
          unfold bigWk at hb
          clear hj
          repeat' (first
 | (apply Awp.sreg; (case hn => (simp only [List.length_cons, List.length_nil, Nat.reduceAdd] <;> rfl)))
 | (refine st_nil ?_)
 | (apply st_a; (case hc => rfl); (case he => (simp only [go_sem, *] <;> rfl)); (case hu => (simp only [updL_nil, updL_cons] <;> rfl)); (case hp => first | trivial | omega))
 | (apply st_m; (case hc => rfl); (case hg => (simp only [go_sem, *] <;> rfl)); (case he => (intro hQz; (try simp only [wantB_t, wantB_f, Bool.and_eq_true, Bool.not_eq_true', Bool.not_true, Bool.not_false, and_true, true_and] at hQz); simp only [go_sem, *] <;> rfl)); (case hp => (intro hQz; (try simp only [wantB_t, wantB_f, Bool.and_eq_true, Bool.not_eq_true', Bool.or_eq_false_iff, decide_eq_true_eq, decide_eq_false_iff_not, beq_iff_eq, beq_eq_false_iff_ne, bne_iff_ne, bne_eq_false_iff_eq, Int.not_lt, Int.not_le, Int.ofNat_lt, Int.ofNat_le] at hQz); first | trivial | omega)))
 | (refine Awp.ret ?_; try simp only [go_sem, *])
 | (refine Awp.skip ?_; try simp only [go_sem, *])
 | refine Awp.block ?_
 | (apply Awp.cond; (case hc => (simp only [go_sem, *] <;> rfl)); all_goals (intro hg; (try simp only [Bool.not_true, Bool.not_false, reduceCtorEq] at hg)))
 | refine Awp.seq ?_)
          all_goals repeat' (first | exact Lower.bool (by first | rfl | (simp only [true_and, Bool.true_and, Bool.false_and, Bool.and_true, Bool.and_false, Bool.true_or, Bool.false_or, reduceIte, Bool.false_eq_true, *]; done) | (simp only [true_and, reduceIte, Bool.false_eq_true, *] <;> rfl) | (simp [true_and]; done) | (simp_all [true_and]; done) | omega))
      · have hlt' : ¬ (i : Int) < l.length := by omega
        have hf := fewW_end hm (Nat.le_of_not_lt hlt) hj
        clear hj
        repeat' (first
 | (apply Awp.sreg; (case hn => (simp only [List.length_cons, List.length_nil, Nat.reduceAdd] <;> rfl)))
 | (refine st_nil ?_)
 | (apply st_a; (case hc => rfl); (case he => (simp only [go_sem, *] <;> rfl)); (case hu => (simp only [updL_nil, updL_cons] <;> rfl)); (case hp => first | trivial))
 | (refine Awp.ret ?_; try simp only [go_sem, *])
 | (refine Awp.exit ?_; try simp only [go_sem, *])
 | (apply Awp.cond; (case hc => (simp only [go_sem, *] <;> rfl)); all_goals (intro hg; (try simp only [Bool.not_true, Bool.not_false, reduceCtorEq] at hg)))
 | refine Awp.seq ?_)
        all_goals repeat' (first | exact Lower.bool (by first | rfl | (simp only [true_and, Bool.true_and, Bool.false_and, Bool.and_true, Bool.and_false, Bool.true_or, Bool.false_or, reduceIte, Bool.false_eq_true, *]; done) | (simp only [true_and, reduceIte, Bool.false_eq_true, *] <;> rfl) | (simp [true_and]; done) | (simp_all [true_and]; done) | omega))
  · have hm' : decide (most < (l.length : Int)) = true := decide_eq_true (by omega)
    have hf : fewW l most = false := by unfold fewW; rw [decide_eq_false hm, Bool.false_and]
    refine fn_pure Tryz.F9 (Nat.le_of_ble_eq_true rfl) ?_; unfold Tryz.ac9 AR AM AO
    repeat' (first
 | (apply Awp.sreg; (case hn => (simp only [List.length_cons, List.length_nil, Nat.reduceAdd] <;> rfl)))
 | (refine st_nil ?_)
 | (apply st_a; (case hc => rfl); (case he => (simp only [go_sem, *] <;> rfl)); (case hu => (simp only [updL_nil, updL_cons] <;> rfl)); (case hp => first | trivial))
 | (refine Awp.ret ?_; try simp only [go_sem, *])
 | (apply Awp.cond; (case hc => (simp only [go_sem, *] <;> rfl)); all_goals (intro hg; (try simp only [Bool.not_true, Bool.not_false, reduceCtorEq] at hg); (try have hg' := hg); (try simp only [decide_eq_true_eq, decide_eq_false_iff_not, Bool.and_eq_true, Bool.or_eq_false_iff, bne_iff_ne, bne_eq_false_iff_eq, beq_iff_eq, beq_eq_false_iff_ne, Int.not_lt, Int.not_le, Int.ofNat_lt, Int.ofNat_le, Int.natCast_inj] at hg')))
 | refine Awp.seq ?_)
    all_goals repeat' (first | exact Lower.bool (by first | rfl | (simp only [true_and, Bool.true_and, Bool.false_and, Bool.and_true, Bool.and_false, Bool.true_or, Bool.false_or, reduceIte, Bool.false_eq_true, *]; done) | (simp only [true_and, reduceIte, Bool.false_eq_true, *] <;> rfl) | (simp [true_and]; done) | (simp_all [true_and]; done) | omega))
theorem same42_ok (a : List Sty) (ha : a.length < 1000000) : Pure Tryz.prog 19 [.sl (stys a), .sl (stys a)] (.v (.bool true)) := by
  have hne : ((a.length : Int) != a.length) = false := by simp
  refine fn_pure Tryz.F19 (Nat.le_of_ble_eq_true rfl) ?_; unfold Tryz.ac19 AR AM AO
  repeat' (first
 | (apply Awp.sreg; (case hn => (simp only [List.length_cons, List.length_nil, Nat.reduceAdd] <;> rfl)))
 | (refine st_nil ?_)
 | (apply st_a; (case hc => rfl); (case he => (simp only [go_sem, *] <;> rfl)); (case hu => (simp only [updL_nil, updL_cons] <;> rfl)); (case hp => first | trivial))
 | (refine Awp.skip ?_; try simp only [go_sem, *])
 | refine Awp.block ?_
 | (apply Awp.cond; (case hc => (simp only [go_sem, *] <;> rfl)); all_goals (intro hg; (try simp only [Bool.not_true, Bool.not_false, reduceCtorEq] at hg)))
 | refine Awp.seq ?_)
  refine Awp.loop (fun i : Nat => i ≤ a.length) 60 (fun i => mkS [(0, .sl (stys a)), (1, .sl (stys a)), (5, .v (.int .i64 i))] []) (fun i => a.length - i) 0 (Nat.zero_le _) ?_ ?_
  · (apply Ghost.mk [] []; (case hdead => rfl); (case hinj => rfl); (case hV => (simp only [go_sem, *]) <;> (repeat' (first | exact View.int (by first | rfl | omega | (simp; done) | (rw [wrap_i64] <;> (try simp only [Int.natCast_add]) <;> omega) | (simp [*]; done))))); (case hB => (simp only [go_sem, *]) <;> (repeat' (first | skip; done))))
  · intro i hi
    by_cases hlt : i < a.length
    · have hlt' : (i : Int) < a.length := by omega
      have hat := stys_at a i hlt
      have hz : ((a.getD i zeroSty).cells).length = 8 := rfl
      generalize a.getD i zeroSty = x at *
      have hx : (x.item.toList == x.item.toList) = true := by simp
      have hx2 : (x.bay.toList == x.bay.toList) = true := by simp
      repeat' (first
 | (apply Awp.sreg; (case hn => (simp only [List.length_cons, List.length_nil, Nat.reduceAdd] <;> rfl)))
 | (apply Awp.sdraw; (case hn => (simp only [List.length_cons, List.length_nil, Nat.reduceAdd] <;> rfl)))
 | (refine st_nil ?_)
 | (apply st_a; (case hc => rfl); (case he => (simp only [go_sem, *] <;> rfl)); (case hu => (simp only [updL_nil, updL_cons] <;> rfl)); (case hp => first | trivial))
 | (apply Awp.reg; (case hn => (simp only [List.length_cons, List.length_nil, Nat.reduceAdd] <;> rfl)))
 | (refine Awp.ret ?_; try simp only [go_sem, *])
 | (refine Awp.skip ?_; try simp only [go_sem, *])
 | refine Awp.block ?_
 | (apply Awp.cond; (case hc => (simp only [go_sem, *] <;> rfl)); all_goals (intro hg; (try simp only [Bool.not_true, Bool.not_false, reduceCtorEq] at hg)))
 | refine Awp.seq ?_
 | (apply sl_a; (case hc => rfl); (case he => (simp only [go_sem, *] <;> rfl)); (case hu => (simp only [updL_nil, updL_cons] <;> rfl)); (case hl => (simp only [List.map_cons, List.map_nil] <;> rfl)); (case hp => first | trivial | omega))
 | (refine sl_nil (And.intro (by first | exact drawOk_of (by decide +kernel) | (simp only [List.map_cons, List.map_nil]; exact drawOk_of (by decide +kernel)) | decide) ?_)))
      all_goals (try (exfalso; simp at hg; done))
      refine ⟨i + 1, by omega, by omega, ?_⟩
      (apply Ghost.mk [] []; (case hdead => rfl); (case hinj => rfl); (case hV => (simp only [go_sem, *]) <;> (repeat' (first | exact View.int (by first | rfl | omega | (simp; done) | (rw [wrap_i64] <;> (try simp only [Int.natCast_add]) <;> omega) | (simp [*]; done))))); (case hB => (simp only [go_sem, *]) <;> (repeat' (first | skip; done))))
    · have hlt' : ¬ (i : Int) < a.length := by omega
      repeat' (first
 | (apply Awp.sreg; (case hn => (simp only [List.length_cons, List.length_nil, Nat.reduceAdd] <;> rfl)))
 | (refine st_nil ?_)
 | (apply st_a; (case hc => rfl); (case he => (simp only [go_sem, *] <;> rfl)); (case hu => (simp only [updL_nil, updL_cons] <;> rfl)); (case hp => first | trivial))
 | (refine Awp.ret ?_; try simp only [go_sem, *])
 | (refine Awp.exit ?_; try simp only [go_sem, *])
 | (apply Awp.cond; (case hc => (simp only [go_sem, *] <;> rfl)); all_goals (intro hg; (try simp only [Bool.not_true, Bool.not_false, reduceCtorEq] at hg)))
 | refine Awp.seq ?_)
      all_goals repeat' (first | exact Lower.bool (by first | rfl | (simp only [true_and, Bool.true_and, Bool.false_and, Bool.and_true, Bool.and_false, Bool.true_or, Bool.false_or, reduceIte, Bool.false_eq_true, *]; done) | (simp only [true_and, reduceIte, Bool.false_eq_true, *] <;> rfl) | (simp [true_and]; done) | (simp_all [true_and]; done) | omega))
def unI (P : List Sty) (s : ByteArray) (n : Int) : Int := P.foldl (fun n y => if (y.item.toList == s.toList) = true then imax n y.b else n) n
def untilE (af : List ByteArray) (P : List Sty) : Int := af.foldl (fun n s => unI P s n) 0
theorem fold1 {α β : Type} (f : β → α → β) (b : β) (l : List α) (i : Nat) (d : α) (h : i < l.length) : (l.take (i + 1)).foldl f b = f ((l.take i).foldl f b) (l.getD i d) := by
  rw [List.take_add_one, List.getElem?_eq_getElem h, List.foldl_append]
  simp [List.getD_eq_getElem?_getD, h]
theorem until_ok (af : List ByteArray) (P : List Sty) (h1 : af.length < 1000000) (h2 : P.length < 1000000) : Pure Tryz.prog 33 [.sl (strs af), .sl (stys P)] (.v (.int .i64 (untilE af P))) := by
  refine fn_pure Tryz.F33 (Nat.le_of_ble_eq_true rfl) ?_; unfold Tryz.ac33 AR AM AO
  repeat' (first
 | (apply Awp.sreg; (case hn => (simp only [List.length_cons, List.length_nil, Nat.reduceAdd] <;> rfl)))
 | (refine st_nil ?_)
 | (apply st_a; (case hc => rfl); (case he => (simp only [go_sem, *] <;> rfl)); (case hu => (simp only [updL_nil, updL_cons] <;> rfl)); (case hp => first | trivial))
 | refine Awp.block ?_
 | refine Awp.seq ?_)
  refine Awp.loop (fun i : Nat => i ≤ af.length) 60 (fun i => mkS [(0, .sl (strs af)), (1, .sl (stys P)), (5, .v (.int .i64 ((af.take i).foldl (fun n s => unI P s n) 0))), (6, .v (.int .i64 i))] []) (fun i => af.length - i) 0 (Nat.zero_le _) ?_ ?_
  · have e1 : (af.take 0).foldl (fun n s => unI P s n) 0 = 0 := rfl
    rw [e1]
    (apply Ghost.mk [] []; (case hdead => rfl); (case hinj => rfl); (case hV => (simp only [go_sem, *]) <;> (repeat' (first | exact View.int (by first | rfl | omega | (simp; done) | (rw [wrap_i64] <;> (try simp only [Int.natCast_add]) <;> omega) | (simp [*]; done))))); (case hB => (simp only [go_sem, *]) <;> (repeat' (first | skip; done))))
  · intro i hi
    by_cases hlt : i < af.length
    · have hlt' : (i : Int) < af.length := by omega
      have hat := strs_at af i hlt
      have hst := fold1 (fun n s => unI P s n) 0 af i ⟨#[]⟩ hlt
      try simp only at hst
      generalize (af.take i).foldl (fun n s => unI P s n) 0 = n0 at *
      generalize af.getD i ⟨#[]⟩ = s at *
      unfold unI at hst
      change Hid _ at hst
      repeat' (first
 | (apply Awp.sreg; (case hn => (simp only [List.length_cons, List.length_nil, Nat.reduceAdd] <;> rfl)))
 | (refine st_nil ?_)
 | (apply st_a; (case hc => rfl); (case he => (simp only [go_sem, *] <;> rfl)); (case hu => (simp only [updL_nil, updL_cons] <;> rfl)); (case hp => first | trivial))
 | (refine Awp.skip ?_; try simp only [go_sem, *])
 | refine Awp.block ?_
 | (apply Awp.cond; (case hc => (simp only [go_sem, *] <;> rfl)); all_goals (intro hg; (try simp only [Bool.not_true, Bool.not_false, reduceCtorEq] at hg)))
 | refine Awp.seq ?_)
      refine Awp.loop (fun k : Nat => k ≤ P.length) 120 (fun k => mkS [(0, .sl (strs af)), (1, .sl (stys P)), (5, .v (.int .i64 ((P.take k).foldl (fun n y => if (y.item.toList == s.toList) = true then imax n y.b else n) n0))), (6, .v (.int .i64 i)), (7, .v (.int .i64 k))] []) (fun k => P.length - k) 0 (Nat.zero_le _) ?_ ?_
      · have e1 : (P.take 0).foldl (fun n (y : Sty) => if (y.item.toList == s.toList) = true then imax n y.b else n) n0 = n0 := rfl
        rw [e1]
        (apply Ghost.mk [] []; (case hdead => rfl); (case hinj => rfl); (case hV => (simp only [go_sem, *]) <;> (repeat' (first | exact View.int (by first | rfl | omega | (simp; done) | (rw [wrap_i64] <;> (try simp only [Int.natCast_add]) <;> omega) | (simp [*]; done))))); (case hB => (simp only [go_sem, *]) <;> (repeat' (first | skip; done))))
      · intro k hk
        by_cases hkt : k < P.length
        · have hkt' : (k : Int) < P.length := by omega
          have hkat := stys_at P k hkt
          have hz : ((P.getD k zeroSty).cells).length = 8 := rfl
          have hs2 := fold1 (fun n (y : Sty) => if (y.item.toList == s.toList) = true then imax n y.b else n) n0 P k zeroSty hkt
          try simp only at hs2
          clear hst
          generalize (P.take k).foldl (fun n (y : Sty) => if (y.item.toList == s.toList) = true then imax n y.b else n) n0 = m at *
          generalize P.getD k zeroSty = y at *
          unfold imax at hs2 ⊢
          cases he : (y.item.toList == s.toList)
          · rw [he, if_neg (by decide)] at hs2
            repeat' (first
 | (apply Awp.sreg; (case hn => (simp only [List.length_cons, List.length_nil, Nat.reduceAdd] <;> rfl)))
 | (apply Awp.sdraw; (case hn => (simp only [List.length_cons, List.length_nil, Nat.reduceAdd] <;> rfl)))
 | (refine st_nil ?_)
 | (apply st_a; (case hc => rfl); (case he => (simp only [go_sem, *] <;> rfl)); (case hu => (simp only [updL_nil, updL_cons] <;> rfl)); (case hp => first | trivial))
 | (apply Awp.reg; (case hn => (simp only [List.length_cons, List.length_nil, Nat.reduceAdd] <;> rfl)))
 | (refine Awp.skip ?_; try simp only [go_sem, *])
 | refine Awp.block ?_
 | (apply Awp.cond; (case hc => (simp only [go_sem, *] <;> rfl)); all_goals (intro hg; (try simp only [Bool.not_true, Bool.not_false, reduceCtorEq] at hg)))
 | refine Awp.seq ?_
 | (apply sl_a; (case hc => rfl); (case he => (simp only [go_sem, *] <;> rfl)); (case hu => (simp only [updL_nil, updL_cons] <;> rfl)); (case hl => (simp only [List.map_cons, List.map_nil] <;> rfl)); (case hp => first | trivial | omega))
 | (refine sl_nil (And.intro (by first | exact drawOk_of (by decide +kernel) | (simp only [List.map_cons, List.map_nil]; exact drawOk_of (by decide +kernel)) | decide) ?_)))
            refine ⟨k + 1, by omega, by omega, ?_⟩
            (apply Ghost.mk [] []; (case hdead => rfl); (case hinj => rfl); (case hV => (simp only [go_sem, *]) <;> (repeat' (first | exact View.int (by first | rfl | omega | (simp; done) | (rw [wrap_i64] <;> (try simp only [Int.natCast_add]) <;> omega) | (simp [*]; done))))); (case hB => (simp only [go_sem, *]) <;> (repeat' (first | skip; done))))
          · rw [he, if_pos rfl] at hs2
            repeat' (first
 | (apply Awp.sreg; (case hn => (simp only [List.length_cons, List.length_nil, Nat.reduceAdd] <;> rfl)))
 | (apply Awp.sdraw; (case hn => (simp only [List.length_cons, List.length_nil, Nat.reduceAdd] <;> rfl)))
 | (refine st_nil ?_)
 | (apply st_a; (case hc => rfl); (case he => (simp only [go_sem, *] <;> rfl)); (case hu => (simp only [updL_nil, updL_cons] <;> rfl)); (case hp => first | trivial | omega))
 | (apply Awp.reg; (case hn => (simp only [List.length_cons, List.length_nil, Nat.reduceAdd] <;> rfl)))
 | (refine Awp.skip ?_; try simp only [go_sem, *])
 | refine Awp.block ?_
 | (apply Awp.cond; (case hc => (simp only [go_sem, *] <;> rfl)); all_goals (intro hg; (try simp only [Bool.not_true, Bool.not_false, reduceCtorEq] at hg)))
 | refine Awp.seq ?_
 | (apply sl_a; (case hc => rfl); (case he => (simp only [go_sem, *] <;> rfl)); (case hu => (simp only [updL_nil, updL_cons] <;> rfl)); (case hl => (simp only [List.map_cons, List.map_nil] <;> rfl)); (case hp => first | trivial | omega))
 | (refine sl_nil (And.intro (by first | exact drawOk_of (by decide +kernel) | (simp only [List.map_cons, List.map_nil]; exact drawOk_of (by decide +kernel)) | decide) ?_)))
            refine ⟨k + 1, by omega, by omega, ?_⟩
            (apply Ghost.mk [] []; (case hdead => rfl); (case hinj => rfl); (case hV => (simp only [go_sem, *]) <;> (repeat' (first | exact View.int (by first | rfl | omega | (simp; done) | (rw [wrap_i64] <;> (try simp only [Int.natCast_add]) <;> omega) | (simp [*]; done))))); (case hB => (simp only [go_sem, *]) <;> (repeat' (first | skip; done))))
        · have hkt' : ¬ (k : Int) < P.length := by omega
          have e1 : P.take k = P := List.take_of_length_le (by omega)
          rw [e1]
          have hst2 := hst
          unfold Hid at hst2
          rw [← hst2]
          clear hst hst2 e1
          repeat' (first
 | (apply Awp.sreg; (case hn => (simp only [List.length_cons, List.length_nil, Nat.reduceAdd] <;> rfl)))
 | (refine st_nil ?_)
 | (apply st_a; (case hc => rfl); (case he => (simp only [go_sem, *] <;> rfl)); (case hu => (simp only [updL_nil, updL_cons] <;> rfl)); (case hp => first | trivial))
 | (apply Awp.reg; (case hn => (simp only [List.length_cons, List.length_nil, Nat.reduceAdd] <;> rfl)))
 | (refine Awp.exit ?_; try simp only [go_sem, *])
 | (apply Awp.cond; (case hc => (simp only [go_sem, *] <;> rfl)); all_goals (intro hg; (try simp only [Bool.not_true, Bool.not_false, reduceCtorEq] at hg)))
 | refine Awp.seq ?_)
          refine ⟨i + 1, by omega, by omega, ?_⟩
          (apply Ghost.mk [] []; (case hdead => rfl); (case hinj => rfl); (case hV => (simp only [go_sem, *]) <;> (repeat' (first | refine And.intro ?_ ?_ | exact View.int (by first | rfl | omega | (simp; done) | (rw [wrap_i64] <;> (try simp only [Int.natCast_add]) <;> omega) | (simp [*]; done))))); (case hB => (simp only [go_sem, *]) <;> (repeat' (first | skip; done))))
    · have hlt' : ¬ (i : Int) < af.length := by omega
      have e1 : af.take i = af := List.take_of_length_le (by omega)
      have hf : untilE af P = af.foldl (fun n s => unI P s n) 0 := rfl
      rw [e1, hf]
      clear e1 hf
      repeat' (first
 | (apply Awp.sreg; (case hn => (simp only [List.length_cons, List.length_nil, Nat.reduceAdd] <;> rfl)))
 | (refine st_nil ?_)
 | (apply st_a; (case hc => rfl); (case he => (simp only [go_sem, *] <;> rfl)); (case hu => (simp only [updL_nil, updL_cons] <;> rfl)); (case hp => first | trivial))
 | (refine Awp.ret ?_; try simp only [go_sem, *])
 | (refine Awp.exit ?_; try simp only [go_sem, *])
 | (apply Awp.cond; (case hc => (simp only [go_sem, *] <;> rfl)); all_goals (intro hg; (try simp only [Bool.not_true, Bool.not_false, reduceCtorEq] at hg)))
 | refine Awp.seq ?_)
      all_goals repeat' (first | exact Lower.int (by first | rfl | (simp only [true_and, Bool.true_and, Bool.false_and, Bool.and_true, Bool.and_false, Bool.true_or, Bool.false_or, reduceIte, Bool.false_eq_true, *]; done) | (simp only [true_and, reduceIte, Bool.false_eq_true, *] <;> rfl) | (simp [true_and]; done) | (simp_all [true_and]; done) | omega))
end Go.Proofs
namespace Go.Proofs
open Go Go.Ab
set_option maxHeartbeats 1000000
theorem hasD_eq (D : List ByteArray) (s : ByteArray) : hasD D s = hasK D s := by
  unfold hasD hasK
  congr 1
  funext x
  rw [Bool.eq_iff_iff, beq_iff_eq, beq_iff_eq]
  exact eq_comm
theorem hasK_iff {K : List ByteArray} {s : ByteArray} : hasK K s = true ↔ s ∈ K := by
  unfold hasK
  rw [List.any_eq_true]
  constructor
  · rintro ⟨x, hx, e⟩
    rw [str_eq (beq_iff_eq.1 e)]; exact hx
  · intro h; exact ⟨s, h, by simp⟩
theorem hasD_iff {K : List ByteArray} {s : ByteArray} : hasD K s = true ↔ s ∈ K := by rw [hasD_eq]; exact hasK_iff
theorem mapIx_at {K : List ByteArray} {s : ByteArray} {i : Nat} (h : mapIx K s = some i) : i < K.length ∧ K[i]? = some s := by
  have hl := mapIx_lt h
  have := List.findIdx?_eq_some_iff_getElem.1 h
  obtain ⟨h1, h2, _⟩ := this
  exact ⟨hl, by rw [List.getElem?_eq_getElem hl, str_eq (beq_iff_eq.1 h2)]⟩
theorem delW_nodup {W : List Wk} (s : ByteArray) (h : (ids W).Nodup) : (ids (delW W s)).Nodup := by
  rw [← delW_ids]
  cases mapIx (ids W) s with
  | none => exact h
  | some i => exact List.Sublist.nodup (List.eraseIdx_sublist _ _) h
theorem delW_mem {W : List Wk} {s t : ByteArray} (h : (ids W).Nodup) : t ∈ ids (delW W s) ↔ t ∈ ids W ∧ t ≠ s := by
  rw [← delW_ids]
  cases hm : mapIx (ids W) s with
  | none =>
    have hn := mapIx_none.1 hm
    constructor
    · intro ht
      refine ⟨ht, fun e => ?_⟩
      have ht : t ∈ ids W := ht
      rw [e] at ht
      rw [hasK_iff.2 ht] at hn
      cases hn
    · exact fun h => h.1
  | some i =>
    obtain ⟨hi, he⟩ := mapIx_at hm
    show t ∈ (ids W).eraseIdx i ↔ _
    rw [List.mem_eraseIdx_iff_getElem?]
    constructor
    · rintro ⟨j, hj, hjt⟩
      have hjl : j < (ids W).length := by
        rcases Nat.lt_or_ge j (ids W).length with h | h
        · exact h
        · rw [List.getElem?_eq_none h] at hjt; cases hjt
      refine ⟨List.mem_of_getElem? hjt, fun e => ?_⟩
      subst e
      exact hj ((List.getElem?_inj hjl h).1 (hjt.trans he.symm))
    · rintro ⟨ht, hne⟩
      obtain ⟨j, hj, hjt⟩ := List.getElem_of_mem ht
      refine ⟨j, fun e => ?_, by rw [List.getElem?_eq_getElem hj, hjt]⟩
      subst e
      rw [List.getElem?_eq_getElem hj, hjt] at he
      exact hne (Option.some.inj he)
def freeB (D : List ByteArray) (q : Wk) : Bool := !hasD D q.id && readyR q.af D
theorem next_spec (l : List Wk) (T : List Bool) (D : List ByteArray) (hT : ∀ i, i < l.length → T.getD i false = hasD D (l.getD i zeroWk).id) : ∀ n, n ≤ l.length →
    (nextF l T D n < 0 ∧ ∀ i, i < n → freeB D (l.getD i zeroWk) = false) ∨
    (∃ j, nextF l T D n = (j : Nat) ∧ j < n ∧ freeB D (l.getD j zeroWk) = true ∧ ∀ i, i < n → freeB D (l.getD i zeroWk) = true → strLess (l.getD i zeroWk).id (l.getD j zeroWk).id = false)
  | 0, _ => .inl ⟨by unfold nextF; omega, fun i hi => by omega⟩
  | n + 1, hn => by
    have ih := next_spec l T D hT n (by omega)
    have hf : (!(T.getD n false) && readyR (l.getD n zeroWk).af D) = freeB D (l.getD n zeroWk) := by rw [hT n (by omega)]; rfl
    have hstep : nextF l T D (n + 1) = if takB l T D (nextF l T D n) n then (n : Int) else nextF l T D n := rfl
    have ht : takB l T D (nextF l T D n) n = (freeB D (l.getD n zeroWk) && (decide (nextF l T D n < 0) || strLess (l.getD n zeroWk).id (l.getD (nextF l T D n).toNat zeroWk).id)) := by
      unfold takB; rw [hf]
    rw [hstep, ht]
    cases hF : freeB D (l.getD n zeroWk)
    · rw [Bool.false_and, if_neg (by decide)]
      rcases ih with ⟨h1, h2⟩ | ⟨j, h1, h2, h3, h4⟩
      · refine .inl ⟨h1, fun i hi => ?_⟩
        rcases Nat.lt_succ_iff_lt_or_eq.1 hi with h | h
        · exact h2 i h
        · rw [h]; exact hF
      · refine .inr ⟨j, h1, by omega, h3, fun i hi hi2 => ?_⟩
        rcases Nat.lt_succ_iff_lt_or_eq.1 hi with h | h
        · exact h4 i h hi2
        · rw [h, hF] at hi2; cases hi2
    · rw [Bool.true_and]
      rcases ih with ⟨h1, h2⟩ | ⟨j, h1, h2, h3, h4⟩
      · rw [decide_eq_true h1, Bool.true_or, if_pos rfl]
        refine .inr ⟨n, rfl, by omega, hF, fun i hi hi2 => ?_⟩
        rcases Nat.lt_succ_iff_lt_or_eq.1 hi with h | h
        · rw [h2 i h] at hi2; cases hi2
        · rw [h]; exact strLess_irrefl _
      · rw [h1, decide_eq_false (by omega), Bool.false_or, Int.toNat_natCast]
        cases hs : strLess (l.getD n zeroWk).id (l.getD j zeroWk).id
        · rw [if_neg (by decide)]
          refine .inr ⟨j, rfl, by omega, h3, fun i hi hi2 => ?_⟩
          rcases Nat.lt_succ_iff_lt_or_eq.1 hi with h | h
          · exact h4 i h hi2
          · rw [h]; exact hs
        · rw [if_pos rfl]
          refine .inr ⟨n, rfl, by omega, hF, fun i hi hi2 => ?_⟩
          rcases Nat.lt_succ_iff_lt_or_eq.1 hi with h | h
          · exact strLess_ntrans (h4 i h hi2) (strLess_asymm hs)
          · rw [h]; exact strLess_irrefl _
theorem idx_spec (p : Wk → Bool) (S : List Wk) (hS : S.Pairwise (fun x y => strLess y.id x.id = false)) :
    (idxF p S < 0 ∧ ∀ q ∈ S, p q = false) ∨ (∃ i : Nat, idxF p S = i ∧ i < S.length ∧ p (S.getD i zeroWk) = true ∧ ∀ q ∈ S, p q = true → strLess q.id (S.getD i zeroWk).id = false) := by
  unfold idxF
  split
  · rename_i h
    have hp := List.findIdx_getElem (p := p) (w := h)
    refine .inr ⟨_, rfl, h, by simpa [List.getD_eq_getElem?_getD, h] using hp, fun q hq hpq => ?_⟩
    obtain ⟨k, hk, rfl⟩ := List.getElem_of_mem hq
    have hge : ¬ k < S.findIdx p := fun hlt => by
      have := List.not_of_lt_findIdx hlt
      rw [hpq] at this; cases this
    rw [List.getD_eq_getElem?_getD, List.getElem?_eq_getElem h, Option.getD_some]
    rcases Nat.lt_or_ge (S.findIdx p) k with h1 | h1
    · exact List.pairwise_iff_getElem.1 hS _ _ h hk h1
    · have : k = S.findIdx p := by omega
      subst this
      exact strLess_irrefl _
  · rename_i h
    refine .inl ⟨by omega, fun q hq => ?_⟩
    have := List.findIdx_eq_length.1 (Nat.le_antisymm List.findIdx_le_length (Nat.le_of_not_lt h)) q hq
    simpa using this
structure OInv (l W out : List Wk) (T : List Bool) : Prop where
  nd : (ids W).Nodup
  w : ∀ t, t ∈ ids W ↔ t ∈ ids l ∧ t ∉ ids out
  t : ∀ i, i < l.length → T.getD i false = hasD (ids out) (l.getD i zeroWk).id
  tl : T.length = l.length
theorem ready_free {l W out : List Wk} {T : List Bool} (h : OInv l W out T) (hw : ∀ q ∈ l, wantB l q = true) {q : Wk} (hq : q ∈ l) : readyB W q = freeB (ids out) q := by
  have hm : q.id ∈ ids l := List.mem_map.2 ⟨q, hq, rfl⟩
  have hwq := hw q hq
  unfold wantB at hwq
  rw [List.all_eq_true] at hwq
  rw [Bool.eq_iff_iff]
  unfold readyB freeB readyR
  rw [Bool.and_eq_true, Bool.and_eq_true, hasK_iff, Bool.not_eq_true', Bool.not_eq_true', h.w, List.any_eq_false, List.all_eq_true]
  constructor
  · rintro ⟨⟨_, h1⟩, h2⟩
    refine ⟨by rw [Bool.eq_false_iff]; exact fun e => h1 (hasD_iff.1 e), fun x hx => ?_⟩
    rw [hasD_iff]
    have := h2 x hx
    rw [hasK_iff, h.w] at this
    exact Classical.byContradiction fun hn => this ⟨hasK_iff.1 (hwq x hx), hn⟩
  · rintro ⟨h1, h2⟩
    refine ⟨⟨hm, fun e => by rw [hasD_iff.2 e] at h1; cases h1⟩, fun x hx => ?_⟩
    rw [hasK_iff, h.w]
    exact fun e => e.2 (hasD_iff.1 (h2 x hx))
theorem ids_inj {l : List Wk} (h : (ids l).Nodup) {i j : Nat} (hi : i < l.length) (hj : j < l.length) (e : (l.getD i zeroWk).id = (l.getD j zeroWk).id) : i = j := by
  have hil : i < (ids l).length := by rw [ids_len]; exact hi
  refine (List.getElem?_inj hil h).1 ?_
  unfold ids
  rw [List.getElem?_map, List.getElem?_map, List.getElem?_eq_getElem hi, List.getElem?_eq_getElem hj]
  simp only [List.getD_eq_getElem?_getD, List.getElem?_eq_getElem hi, List.getElem?_eq_getElem hj, Option.getD_some] at e
  simp [e]
theorem orders_eq {l : List Wk} (hnd : (ids l).Nodup) (hw : ∀ q ∈ l, wantB l q = true) : ∀ (n : Nat) (W out : List Wk) (T : List Bool), OInv l W out T →
    rordG l n T (ids out) = (ids (ordG (sortW l) n W out).1, (ordG (sortW l) n W out).2)
  | 0, _, _, _, _ => rfl
  | n + 1, W, out, T, h => by
    have hsm : ∀ q, q ∈ sortW l ↔ q ∈ l := fun q => (sortW_perm l).mem_iff
    have hA := next_spec l T (ids out) h.t l.length (Nat.le_refl _)
    have hB := idx_spec (readyB W) (sortW l) (sortW_asc l)
    unfold rordG ordG
    rcases hA with ⟨a1, a2⟩ | ⟨j, a1, a2, a3, a4⟩
    · rcases hB with ⟨b1, b2⟩ | ⟨i, b1, b2, b3, b4⟩
      · rw [if_pos a1, if_pos b1]; rfl
      · exfalso
        have hq : (sortW l).getD i zeroWk ∈ l := (hsm _).1 (getD_mem _ b2)
        rw [ready_free h hw hq] at b3
        obtain ⟨k, hk, hke⟩ := List.getElem_of_mem hq
        have := a2 k hk
        rw [List.getD_eq_getElem?_getD, List.getElem?_eq_getElem hk, Option.getD_some, hke, b3] at this
        cases this
    · rcases hB with ⟨b1, b2⟩ | ⟨i, b1, b2, b3, b4⟩
      · exfalso
        have hq : l.getD j zeroWk ∈ l := getD_mem _ a2
        have := b2 _ ((hsm _).2 hq)
        rw [ready_free h hw hq, a3] at this
        cases this
      · rw [a1, b1, if_neg (by omega), if_neg (by omega), Int.toNat_natCast, Int.toNat_natCast]
        have hq : (sortW l).getD i zeroWk ∈ l := (hsm _).1 (getD_mem _ b2)
        have hqj : l.getD j zeroWk ∈ l := getD_mem _ a2
        obtain ⟨k, hk, hke⟩ := List.getElem_of_mem hq
        have hkD : l.getD k zeroWk = (sortW l).getD i zeroWk := by rw [← hke]; simp [List.getD_eq_getElem?_getD, hk]
        have e1 := a4 k hk (by rw [hkD, ← ready_free h hw hq]; exact b3)
        rw [hkD] at e1
        have e2 := b4 _ ((hsm _).2 hqj) (by rw [ready_free h hw hqj]; exact a3)
        have hid : (l.getD j zeroWk).id = ((sortW l).getD i zeroWk).id := str_eq (strLess_tri _ _ e2 e1)
        have hnew : ids out ++ [(l.getD j zeroWk).id] = ids (out ++ [(sortW l).getD i zeroWk]) := by rw [hid]; simp [ids]
        rw [hnew]
        refine orders_eq hnd hw n _ _ _ ⟨delW_nodup _ h.nd, fun t => ?_, fun m hm => ?_, by rw [List.length_set]; exact h.tl⟩
        · rw [delW_mem h.nd, h.w, ← hnew, hid]
          simp only [List.mem_append, List.mem_singleton, not_or]
          constructor
          · rintro ⟨⟨x, y⟩, z⟩; exact ⟨x, y, z⟩
          · rintro ⟨x, y, z⟩; exact ⟨⟨x, y⟩, z⟩
        · rw [← hnew]
          have hjT : j < T.length := by rw [h.tl]; exact a2
          rw [Bool.eq_iff_iff, hasD_iff]
          simp only [List.mem_append, List.mem_singleton]
          rw [List.getD_eq_getElem?_getD, List.getElem?_set]
          by_cases hmj : j = m
          · subst hmj
            rw [if_pos rfl, if_pos hjT]
            simp
          · rw [if_neg hmj, ← List.getD_eq_getElem?_getD, h.t m hm, hasD_iff]
            constructor
            · exact .inl
            · rintro (x | x)
              · exact x
              · exact absurd (ids_inj hnd hm a2 x).symm hmj
theorem order_same (l : List Wk) : rordE l = (ids (ordE l).1, (ordE l).2) := by
  unfold rordE ordE
  split
  · rfl
  · rename_i h
    have h : jobsE l = 0 := by simpa using h
    have hnd : (ids l).Nodup := ids_nodup h
    refine orders_eq hnd (jobsE_inv h).2.2 l.length l [] _ ⟨hnd, fun t => by simp [ids], fun i hi => ?_, by simp⟩
    simp [ids, hasD, hi, List.getD_eq_getElem?_getD]
end Go.Proofs
namespace Go.Proofs
open Go Go.Ab
set_option maxHeartbeats 8000000
set_option maxRecDepth 100000
attribute [local irreducible] Awp aops aopsL Go.Ab.Pure PureOwn PureTwoM
def jobAt (l : List Wk) (s : ByteArray) : Wk := l.getD (findW l s).toNat zeroWk
def shpR (l : List Wk) (x : Sty) : Bool := decide (findW l x.item < 0) || (x.len != (jobAt l x.item).len) || (x.wid != (jobAt l x.item).wid) || (x.b != IntKind.i64.wrap (x.a + (jobAt l x.item).hr))
def sameI (x y : Sty) : Bool := y.item.toList == x.item.toList
def badP (l : List Wk) (P : List Sty) (i : Nat) : Bool := shpR l (P.getD i zeroSty) || (List.range i).any fun j => sameI (P.getD i zeroSty) (P.getD j zeroSty)
def lateR (l : List Wk) (P : List Sty) (x : Sty) : Bool := decide (x.a < untilE (jobAt l x.item).af P)
def rchkF (l : List Wk) (P : List Sty) : Int := if ((P.length : Int) != (l.length : Int)) = true then 17 else if (List.range P.length).any (badP l P) = true then 17 else if P.any (lateR l P) = true then 11 else 0
def rchkE (l : List Wk) (bs : List By) (P : List Sty) : Int := if (ordE l).2 ≠ 0 then (ordE l).2 else if checkE bs P ≠ 0 then checkE bs P else rchkF l P
theorem rany_hit {p : Nat → Bool} {n i : Nat} (h : i < n) (hp : p i = true) : (List.range n).any p = true := List.any_eq_true.2 ⟨i, List.mem_range.2 h, hp⟩
theorem rany_end {p : Nat → Bool} {n i : Nat} (h : n ≤ i) (hp : ∀ j, j < i → p j = false) : (List.range n).any p = false := by
  rw [List.any_eq_false]
  intro j hj
  rw [hp j (by have := List.mem_range.1 hj; omega)]; decide
def rk1 (l : List Wk) (P : List Sty) (i : Nat) : AState := mkS [(0, .sl (wks l)), (2, .sl (stys P)), (10, .v (.int .i64 i))] []
def rk2 (l : List Wk) (P : List Sty) (i j : Nat) : AState := mkS [(0, .sl (wks l)), (2, .sl (stys P)), (10, .v (.int .i64 i)), (12, .v (.int .i64 j))] []
def rk3 (l : List Wk) (P : List Sty) (i : Nat) : AState := mkS [(0, .sl (wks l)), (2, .sl (stys P)), (13, .v (.int .i64 i))] []
theorem rpchk_ok (l : List Wk) (bs : List By) (P : List Sty) (hl : l.length < 1000000) (hb : bs.length < 100000) (hP : P.length < 100000) (ha : ∀ q ∈ l, q.af.length < 1000000 ∧ q.id.size < 1000000) (hs : ∀ i, i < P.length → (P.getD i zeroSty).item.size < 1000000) : Pure Tryz.prog 21 [.sl (wks l), .sl (bys bs), .sl (stys P)] (.v (.int .i64 (rchkE l bs P))) := by
  have c0 := rord_ok l ha hl
  have c1 := rcheck_ok bs P hb hP hs
  rw [order_same] at c0
  unfold rchkE
  clear hs
  generalize ordE l = R at *
  obtain ⟨S, e⟩ := R
  simp only at c0 ⊢
  generalize ids S = S at *
  by_cases he : e = 0
  · subst he
    rw [if_neg (by simp)]
    by_cases hc : checkE bs P = 0
    · rw [if_neg (by simp [hc])]
      rw [hc] at c1
      clear hc
      generalize hR : rchkF l P = R
      unfold rchkF at hR
      cases hL : ((P.length : Int) != (l.length : Int))
      case true =>
        rw [if_pos hL] at hR
        subst hR
        clear ha
        refine fn_pure Tryz.F21 (Nat.le_of_ble_eq_true rfl) ?_; unfold Tryz.ac21 AR AM AO
        repeat' (first
 | (apply Awp.sreg; (case hn => (simp only [List.length_cons, List.length_nil, Nat.reduceAdd] <;> rfl)))
 | (refine st_nil ?_)
 | (apply st_a; (case hc => rfl); (case he => (simp only [go_sem, *] <;> rfl)); (case hu => (simp only [updL_nil, updL_cons] <;> rfl)); (case hp => first | trivial))
 | (apply st_c; (case hc => (simp only [go_sem, *] <;> rfl)); (case hl => (simp only [go_sem, *] <;> rfl)); (case hn => (simp only [go_sem, *] <;> rfl)); (case hp => first | exact c0 | (have hXz := c0; simp only [go_sem, *] at hXz; exact hXz)))
 | (apply st_c; (case hc => (simp only [go_sem, *] <;> rfl)); (case hl => (simp only [go_sem, *] <;> rfl)); (case hn => (simp only [go_sem, *] <;> rfl)); (case hp => first | exact c1 | (have hXz := c1; simp only [go_sem, *] at hXz; exact hXz)))
 | (refine Awp.ret ?_; try simp only [go_sem, *])
 | (refine Awp.skip ?_; try simp only [go_sem, *])
 | (apply Awp.cond; (case hc => (simp only [go_sem, *] <;> rfl)); all_goals (intro hg; (try simp only [Bool.not_true, Bool.not_false, reduceCtorEq] at hg)))
 | refine Awp.seq ?_)
        all_goals repeat' (first | exact Lower.int (by first | rfl | (simp only [true_and, Bool.true_and, Bool.false_and, Bool.and_true, Bool.and_false, Bool.true_or, Bool.false_or, reduceIte, Bool.false_eq_true, *]; done) | (simp only [true_and, reduceIte, Bool.false_eq_true, *] <;> rfl) | (simp [true_and]; done) | (simp_all [true_and]; done) | omega))
      rw [hL, if_neg (by decide)] at hR
      have hfd := fun s => wfind_ok l s hl
      refine fn_pure Tryz.F21 (Nat.le_of_ble_eq_true rfl) ?_; unfold Tryz.ac21 AR AM AO
      repeat' (first
 | (apply Awp.sreg; (case hn => (simp only [List.length_cons, List.length_nil, Nat.reduceAdd] <;> rfl)))
 | (refine st_nil ?_)
 | (apply st_a; (case hc => rfl); (case he => (simp only [go_sem, *] <;> rfl)); (case hu => (simp only [updL_nil, updL_cons] <;> rfl)); (case hp => first | trivial))
 | (apply st_c; (case hc => (simp only [go_sem, *] <;> rfl)); (case hl => (simp only [go_sem, *] <;> rfl)); (case hn => (simp only [go_sem, *] <;> rfl)); (case hp => first | exact c0 | (have hXz := c0; simp only [go_sem, *] at hXz; exact hXz)))
 | (apply st_c; (case hc => (simp only [go_sem, *] <;> rfl)); (case hl => (simp only [go_sem, *] <;> rfl)); (case hn => (simp only [go_sem, *] <;> rfl)); (case hp => first | exact c1 | (have hXz := c1; simp only [go_sem, *] at hXz; exact hXz)))
 | (refine Awp.skip ?_; try simp only [go_sem, *])
 | refine Awp.block ?_
 | (apply Awp.cond; (case hc => (simp only [go_sem, *] <;> rfl)); all_goals (intro hg; (try simp only [Bool.not_true, Bool.not_false, reduceCtorEq] at hg)))
 | refine Awp.seq ?_)
      clear c0 c1 hL
      refine Awp.loop (fun i : Nat => i ≤ P.length ∧ ∀ j, j < i → badP l P j = false) 100 (fun i => rk1 l P i) (fun i => P.length - i) 0 (by simp) ?_ ?_
      · unfold rk1
        clear ha hR hfd
        (apply Ghost.mk [] []; (case hdead => rfl); (case hinj => rfl); (case hV => (simp only [go_sem, *]) <;> (repeat' (first | exact View.int (by first | rfl | omega | (simp; done) | (rw [wrap_i64] <;> (try simp only [Int.natCast_add]) <;> omega) | (simp [*]; done))))); (case hB => (simp only [go_sem, *]) <;> (repeat' (first | skip; done))))
      · intro i ⟨hi, hj⟩
        by_cases hlt : i < P.length
        · have hlt' : (i : Int) < P.length := by omega
          have hat := stys_at P i hlt
          have hz : ((P.getD i zeroSty).cells).length = 8 := rfl
          have hbad : badP l P i = true → R = 17 := fun h => by rw [← hR, if_pos (rany_hit hlt h)]
          have hnx : badP l P i = false → Hid (∀ j, j < i + 1 → badP l P j = false) := fun h => ltSucc hj h
          have c2 := hfd (P.getD i zeroSty).item
          clear hj hR ha hfd
          rcases idxF_cases (isN (P.getD i zeroSty).item) l zeroWk with ⟨hf1, hf2⟩ | ⟨k, hk, hkl, _⟩
          · have hf : findW l (P.getD i zeroSty).item = -1 := hf2
            have hsh : shpR l (P.getD i zeroSty) = true := by unfold shpR; rw [hf]; rfl
            have hbad := hbad (by unfold badP; rw [hsh]; rfl)
            subst hbad
            clear hnx hf1 hf2 hsh
            rw [hf] at c2
            clear hf
            generalize P.getD i zeroSty = x at *
            unfold rk1
            repeat' (first
 | (apply Awp.sreg; (case hn => (simp only [List.length_cons, List.length_nil, Nat.reduceAdd] <;> rfl)))
 | (apply Awp.sdraw; (case hn => (simp only [List.length_cons, List.length_nil, Nat.reduceAdd] <;> rfl)))
 | (refine st_nil ?_)
 | (apply st_a; (case hc => rfl); (case he => (simp only [go_sem, *] <;> rfl)); (case hu => (simp only [updL_nil, updL_cons] <;> rfl)); (case hp => first | trivial | omega))
 | (apply st_c; (case hc => (simp only [go_sem, *] <;> rfl)); (case hl => (simp only [go_sem, *] <;> rfl)); (case hn => (simp only [go_sem, *] <;> rfl)); (case hp => first | exact c2 | (have hXz := c2; simp only [go_sem, *] at hXz; exact hXz)))
 | (refine Awp.ret ?_; try simp only [go_sem, *])
 | (refine Awp.skip ?_; try simp only [go_sem, *])
 | refine Awp.block ?_
 | (apply Awp.cond; (case hc => (simp only [go_sem, *] <;> rfl)); all_goals (intro hg; (try simp only [Bool.not_true, Bool.not_false, reduceCtorEq] at hg)))
 | refine Awp.seq ?_
 | (apply sl_a; (case hc => rfl); (case he => (simp only [go_sem, *] <;> rfl)); (case hu => (simp only [updL_nil, updL_cons] <;> rfl)); (case hl => (simp only [List.map_cons, List.map_nil] <;> rfl)); (case hp => first | trivial))
 | (apply sl_gn; (case hv => (simp only [go_sem, *] <;> rfl)); (case hbw => rfl))
 | (refine sl_nil (And.intro (by first | exact drawOk_of (by decide +kernel) | (simp only [List.map_cons, List.map_nil]; exact drawOk_of (by decide +kernel)) | decide) ?_)))
            all_goals repeat' (first | exact Lower.int (by first | rfl | (simp only [true_and, Bool.true_and, Bool.false_and, Bool.and_true, Bool.and_false, Bool.true_or, Bool.false_or, reduceIte, Bool.false_eq_true, *]; done) | (simp only [true_and, reduceIte, Bool.false_eq_true, *] <;> rfl) | (simp [true_and]; done) | (simp_all [true_and]; done) | omega))
          · have hf : findW l (P.getD i zeroSty).item = k := hk
            have hja : jobAt l (P.getD i zeroSty).item = l.getD k zeroWk := by unfold jobAt; rw [hf, Int.toNat_natCast]
            have hsh : shpR l (P.getD i zeroSty) = (((P.getD i zeroSty).len != (l.getD k zeroWk).len) || ((P.getD i zeroSty).wid != (l.getD k zeroWk).wid) || ((P.getD i zeroSty).b != IntKind.i64.wrap ((P.getD i zeroSty).a + (l.getD k zeroWk).hr))) := by
              unfold shpR
              rw [hf, hja, decide_eq_false (by omega), Bool.false_or]
            have hkl' : (k : Int) < l.length := by omega
            have hk0 : (0 : Int) ≤ k := by omega
            have hkd : decide ((k : Int) < 0) = false := decide_eq_false (by omega)
            have hat2 := wks_at l k hkl
            have hz2 : ((l.getD k zeroWk).cells).length = 5 := rfl
            rw [hf] at c2
            clear hk hf hja
            cases h4 : shpR l (P.getD i zeroSty)
            case true =>
              have hbad := hbad (by unfold badP; rw [h4]; rfl)
              subst hbad
              rw [h4] at hsh
              have h5 := hsh.symm
              clear hnx hsh h4
              generalize P.getD i zeroSty = x at *
              generalize l.getD k zeroWk = q at *
              unfold rk1
              repeat' (first
 | (apply Awp.sreg; (case hn => (simp only [List.length_cons, List.length_nil, Nat.reduceAdd] <;> rfl)))
 | (apply Awp.sdraw; (case hn => (simp only [List.length_cons, List.length_nil, Nat.reduceAdd] <;> rfl)))
 | (refine st_nil ?_)
 | (apply st_a; (case hc => rfl); (case he => (simp only [go_sem, *] <;> rfl)); (case hu => (simp only [updL_nil, updL_cons] <;> rfl)); (case hp => first | trivial | omega))
 | (apply st_c; (case hc => (simp only [go_sem, *] <;> rfl)); (case hl => (simp only [go_sem, *] <;> rfl)); (case hn => (simp only [go_sem, *] <;> rfl)); (case hp => first | exact c2 | (have hXz := c2; simp only [go_sem, *] at hXz; exact hXz)))
 | (refine Awp.ret ?_; try simp only [go_sem, *])
 | (refine Awp.skip ?_; try simp only [go_sem, *])
 | refine Awp.block ?_
 | (apply Awp.cond; (case hc => (simp only [go_sem, *] <;> rfl)); all_goals (intro hg; (try simp only [Bool.not_true, Bool.not_false, reduceCtorEq] at hg)))
 | refine Awp.seq ?_
 | (apply sl_a; (case hc => rfl); (case he => (simp only [go_sem, *] <;> rfl)); (case hu => (simp only [updL_nil, updL_cons] <;> rfl)); (case hl => (simp only [List.map_cons, List.map_nil] <;> rfl)); (case hp => first | trivial))
 | (apply sl_gn; (case hv => (simp only [go_sem, *] <;> rfl)); (case hbw => rfl))
 | (apply sl_ga; (case hb => rfl); (case hv => (simp only [go_sem, *] <;> rfl)); (case he => (simp only [go_sem, *] <;> rfl)); (case hu => (simp only [updL_nil, updL_cons] <;> rfl)); (case hl => (simp only [List.map_cons, List.map_nil] <;> rfl)); (case hp => first | trivial | omega))
 | (apply sl_case; (case hv => (simp only [go_sem, *] <;> rfl)); all_goals (intro hg; (try simp only [Bool.not_true, Bool.not_false, reduceCtorEq] at hg)))
 | (refine sl_nil (And.intro (by first | exact drawOk_of (by decide +kernel) | (simp only [List.map_cons, List.map_nil]; exact drawOk_of (by decide +kernel)) | decide) ?_)))
              all_goals (try (exfalso; simp only [*, Bool.true_or, Bool.or_true, Bool.false_or, Bool.or_false, reduceCtorEq] at h5; done))
              all_goals repeat' (first | exact Lower.int (by first | rfl | (simp only [true_and, Bool.true_and, Bool.false_and, Bool.and_true, Bool.and_false, Bool.true_or, Bool.false_or, reduceIte, Bool.false_eq_true, *]; done) | (simp only [true_and, reduceIte, Bool.false_eq_true, *] <;> rfl) | (simp [true_and]; done) | (simp_all [true_and]; done) | omega))
            have hbad2 : ∀ j, j < i → sameI (P.getD i zeroSty) (P.getD j zeroSty) = true → R = 17 := fun j hj h => hbad (by unfold badP; rw [h4]; exact rany_hit (p := fun j => sameI (P.getD i zeroSty) (P.getD j zeroSty)) hj h)
            have hnx2 : (∀ j, j < i → sameI (P.getD i zeroSty) (P.getD j zeroSty) = false) → Hid (∀ j, j < i + 1 → badP l P j = false) := fun h => hnx (by unfold badP; rw [h4]; exact rany_end (p := fun j => sameI (P.getD i zeroSty) (P.getD j zeroSty)) (Nat.le_refl _) h)
            clear hbad hnx
            rw [h4] at hsh
            have h5 := hsh.symm
            clear hsh h4
            generalize hx : P.getD i zeroSty = x at *
            generalize l.getD k zeroWk = q at *
            unfold rk1
            repeat' (first
 | (apply Awp.sreg; (case hn => (simp only [List.length_cons, List.length_nil, Nat.reduceAdd] <;> rfl)))
 | (apply Awp.sdraw; (case hn => (simp only [List.length_cons, List.length_nil, Nat.reduceAdd] <;> rfl)))
 | (refine st_nil ?_)
 | (apply st_a; (case hc => rfl); (case he => (simp only [go_sem, *] <;> rfl)); (case hu => (simp only [updL_nil, updL_cons] <;> rfl)); (case hp => first | trivial | omega))
 | (apply st_c; (case hc => (simp only [go_sem, *] <;> rfl)); (case hl => (simp only [go_sem, *] <;> rfl)); (case hn => (simp only [go_sem, *] <;> rfl)); (case hp => first | exact c2 | (have hXz := c2; simp only [go_sem, *] at hXz; exact hXz)))
 | (refine Awp.ret ?_; try simp only [go_sem, *])
 | (refine Awp.skip ?_; try simp only [go_sem, *])
 | refine Awp.block ?_
 | (apply Awp.cond; (case hc => (simp only [go_sem, *] <;> rfl)); all_goals (intro hg; (try simp only [Bool.not_true, Bool.not_false, reduceCtorEq] at hg)))
 | refine Awp.seq ?_
 | (apply sl_a; (case hc => rfl); (case he => (simp only [go_sem, *] <;> rfl)); (case hu => (simp only [updL_nil, updL_cons] <;> rfl)); (case hl => (simp only [List.map_cons, List.map_nil] <;> rfl)); (case hp => first | trivial))
 | (apply sl_gn; (case hv => (simp only [go_sem, *] <;> rfl)); (case hbw => rfl))
 | (apply sl_ga; (case hb => rfl); (case hv => (simp only [go_sem, *] <;> rfl)); (case he => (simp only [go_sem, *] <;> rfl)); (case hu => (simp only [updL_nil, updL_cons] <;> rfl)); (case hl => (simp only [List.map_cons, List.map_nil] <;> rfl)); (case hp => first | trivial | omega))
 | (apply sl_case; (case hv => (simp only [go_sem, *] <;> rfl)); all_goals (intro hg; (try simp only [Bool.not_true, Bool.not_false, reduceCtorEq] at hg)))
 | (refine sl_nil (And.intro (by first | exact drawOk_of (by decide +kernel) | (simp only [List.map_cons, List.map_nil]; exact drawOk_of (by decide +kernel)) | decide) ?_)))
            all_goals (try (exfalso; simp only [*, Bool.true_or, Bool.or_true, Bool.false_or, Bool.or_false, reduceCtorEq] at h5; done))
            clear c2 h5 hat2 hz2 hkl hkl' hk0 hkd
            refine Awp.loop (fun j : Nat => j ≤ i ∧ ∀ m, m < j → sameI x (P.getD m zeroSty) = false) 200 (fun j => rk2 l P i j) (fun j => i - j) 0 (by simp) ?_ ?_
            · unfold rk2
              clear hbad2 hnx2
              (apply Ghost.mk [] []; (case hdead => rfl); (case hinj => rfl); (case hV => (simp only [go_sem, *]) <;> (repeat' (first | exact View.int (by first | rfl | omega | (simp; done) | (rw [wrap_i64] <;> (try simp only [Int.natCast_add]) <;> omega) | (simp [*]; done))))); (case hB => (simp only [go_sem, *]) <;> (repeat' (first | skip; done))))
            · intro j ⟨hj, hjm⟩
              by_cases hjt : j < i
              · have hjt' : (j : Int) < i := by omega
                have hjP : (j : Int) < P.length := by omega
                have hatj := stys_at P j (by omega)
                have hzj : ((P.getD j zeroSty).cells).length = 8 := rfl
                cases h6 : sameI x (P.getD j zeroSty)
                · have hnx := ltSucc hjm h6
                  change Hid _ at hnx
                  clear hbad2 hnx2 hjm
                  unfold sameI at h6
                  unfold rk2
                  repeat' (first
 | (apply Awp.sreg; (case hn => (simp only [List.length_cons, List.length_nil, Nat.reduceAdd] <;> rfl)))
 | (apply Awp.sdraw; (case hn => (simp only [List.length_cons, List.length_nil, Nat.reduceAdd] <;> rfl)))
 | (refine st_nil ?_)
 | (apply st_a; (case hc => rfl); (case he => (simp only [go_sem, *] <;> rfl)); (case hu => (simp only [updL_nil, updL_cons] <;> rfl)); (case hp => first | trivial))
 | (apply Awp.reg; (case hn => (simp only [List.length_cons, List.length_nil, Nat.reduceAdd] <;> rfl)))
 | (refine Awp.skip ?_; try simp only [go_sem, *])
 | refine Awp.block ?_
 | (apply Awp.cond; (case hc => (simp only [go_sem, *] <;> rfl)); all_goals (intro hg; (try simp only [Bool.not_true, Bool.not_false, reduceCtorEq] at hg)))
 | refine Awp.seq ?_
 | (apply sl_a; (case hc => rfl); (case he => (simp only [go_sem, *] <;> rfl)); (case hu => (simp only [updL_nil, updL_cons] <;> rfl)); (case hl => (simp only [List.map_cons, List.map_nil] <;> rfl)); (case hp => first | trivial | omega))
 | (refine sl_nil (And.intro (by first | exact drawOk_of (by decide +kernel) | (simp only [List.map_cons, List.map_nil]; exact drawOk_of (by decide +kernel)) | decide) ?_)))
                  refine ⟨j + 1, ⟨by omega, hnx⟩, by omega, ?_⟩
                  clear hnx
                  (apply Ghost.mk [] []; (case hdead => rfl); (case hinj => rfl); (case hV => (simp only [go_sem, *]) <;> (repeat' (first | exact View.int (by first | rfl | omega | (simp; done) | (rw [wrap_i64] <;> (try simp only [Int.natCast_add]) <;> omega) | (simp [*]; done))))); (case hB => (simp only [go_sem, *]) <;> (repeat' (first | skip; done))))
                · have hbad := hbad2 j hjt h6
                  subst hbad
                  clear hbad2 hnx2 hjm
                  unfold sameI at h6
                  unfold rk2
                  repeat' (first
 | (apply Awp.sreg; (case hn => (simp only [List.length_cons, List.length_nil, Nat.reduceAdd] <;> rfl)))
 | (apply Awp.sdraw; (case hn => (simp only [List.length_cons, List.length_nil, Nat.reduceAdd] <;> rfl)))
 | (refine st_nil ?_)
 | (apply st_a; (case hc => rfl); (case he => (simp only [go_sem, *] <;> rfl)); (case hu => (simp only [updL_nil, updL_cons] <;> rfl)); (case hp => first | trivial))
 | (refine Awp.ret ?_; try simp only [go_sem, *])
 | (refine Awp.skip ?_; try simp only [go_sem, *])
 | refine Awp.block ?_
 | (apply Awp.cond; (case hc => (simp only [go_sem, *] <;> rfl)); all_goals (intro hg; (try simp only [Bool.not_true, Bool.not_false, reduceCtorEq] at hg)))
 | refine Awp.seq ?_
 | (apply sl_a; (case hc => rfl); (case he => (simp only [go_sem, *] <;> rfl)); (case hu => (simp only [updL_nil, updL_cons] <;> rfl)); (case hl => (simp only [List.map_cons, List.map_nil] <;> rfl)); (case hp => first | trivial | omega))
 | (refine sl_nil (And.intro (by first | exact drawOk_of (by decide +kernel) | (simp only [List.map_cons, List.map_nil]; exact drawOk_of (by decide +kernel)) | decide) ?_)))
                  all_goals repeat' (first | exact Lower.int (by first | rfl | (simp only [true_and, Bool.true_and, Bool.false_and, Bool.and_true, Bool.and_false, Bool.true_or, Bool.false_or, reduceIte, Bool.false_eq_true, *]; done) | (simp only [true_and, reduceIte, Bool.false_eq_true, *] <;> rfl) | (simp [true_and]; done) | (simp_all [true_and]; done) | omega))
              · have hjt' : ¬ (j : Int) < i := by omega
                have hnx := hnx2 fun m hm => hjm m (by omega)
                clear hbad2 hnx2 hjm
                unfold rk2
                repeat' (first
 | (apply Awp.sreg; (case hn => (simp only [List.length_cons, List.length_nil, Nat.reduceAdd] <;> rfl)))
 | (refine st_nil ?_)
 | (apply st_a; (case hc => rfl); (case he => (simp only [go_sem, *] <;> rfl)); (case hu => (simp only [updL_nil, updL_cons] <;> rfl)); (case hp => first | trivial))
 | (apply Awp.reg; (case hn => (simp only [List.length_cons, List.length_nil, Nat.reduceAdd] <;> rfl)))
 | (refine Awp.exit ?_; try simp only [go_sem, *])
 | (apply Awp.cond; (case hc => (simp only [go_sem, *] <;> rfl)); all_goals (intro hg; (try simp only [Bool.not_true, Bool.not_false, reduceCtorEq] at hg)))
 | refine Awp.seq ?_)
                refine ⟨i + 1, ⟨by omega, hnx⟩, by omega, ?_⟩
                clear hnx
                (apply Ghost.mk [] []; (case hdead => rfl); (case hinj => rfl); (case hV => (simp only [go_sem, *]) <;> (repeat' (first | exact View.int (by first | rfl | omega | (simp; done) | (rw [wrap_i64] <;> (try simp only [Int.natCast_add]) <;> omega) | (simp [*]; done))))); (case hB => (simp only [go_sem, *]) <;> (repeat' (first | skip; done))))
        · have hlt' : ¬ (i : Int) < P.length := by omega
          have hne : (List.range P.length).any (badP l P) = false := rany_end (by omega) hj
          rw [hne, if_neg (by decide)] at hR
          have hfn : ∀ j, j < P.length → shpR l (P.getD j zeroSty) = false := fun j hjl => by
            have := hj j (by omega)
            unfold badP at this
            rw [Bool.or_eq_false_iff] at this
            exact this.1
          clear hj hne
          unfold rk1
          repeat' (first
 | (apply Awp.sreg; (case hn => (simp only [List.length_cons, List.length_nil, Nat.reduceAdd] <;> rfl)))
 | (refine st_nil ?_)
 | (apply st_a; (case hc => rfl); (case he => (simp only [go_sem, *] <;> rfl)); (case hu => (simp only [updL_nil, updL_cons] <;> rfl)); (case hp => first | trivial))
 | (refine Awp.exit ?_; try simp only [go_sem, *])
 | refine Awp.block ?_
 | (apply Awp.cond; (case hc => (simp only [go_sem, *] <;> rfl)); all_goals (intro hg; (try simp only [Bool.not_true, Bool.not_false, reduceCtorEq] at hg)))
 | refine Awp.seq ?_)
          refine Awp.loop (fun i : Nat => i ≤ P.length ∧ ∀ j, j < i → lateR l P (P.getD j zeroSty) = false) 300 (fun i => rk3 l P i) (fun i => P.length - i) 0 (by simp) ?_ ?_
          · unfold rk3
            clear ha hR hfd hfn
            (apply Ghost.mk [] []; (case hdead => rfl); (case hinj => rfl); (case hV => (simp only [go_sem, *]) <;> (repeat' (first | exact View.int (by first | rfl | omega | (simp; done) | (rw [wrap_i64] <;> (try simp only [Int.natCast_add]) <;> omega) | (simp [*]; done))))); (case hB => (simp only [go_sem, *]) <;> (repeat' (first | skip; done))))
          · intro i ⟨hi, hj⟩
            by_cases hlt : i < P.length
            · have hlt' : (i : Int) < P.length := by omega
              have hat := stys_at P i hlt
              have hz : ((P.getD i zeroSty).cells).length = 8 := rfl
              have c2 := hfd (P.getD i zeroSty).item
              have hsn := hfn i hlt
              unfold shpR at hsn
              simp only [Bool.or_eq_false_iff, decide_eq_false_iff_not] at hsn
              have hsn := hsn.1.1.1
              have hbad : lateR l P (P.getD i zeroSty) = true → R = 11 := fun h => by rw [← hR, if_pos (any_hit hlt h)]
              have hnx : lateR l P (P.getD i zeroSty) = false → Hid (∀ j, j < i + 1 → lateR l P (P.getD j zeroSty) = false) := fun h => ltSucc hj h
              rcases idxF_cases (isN (P.getD i zeroSty).item) l zeroWk with ⟨hf1, hf2⟩ | ⟨k, hk, hkl, _⟩
              · exact absurd hf1 hsn
              · have hf : findW l (P.getD i zeroSty).item = k := hk
                have hja : jobAt l (P.getD i zeroSty).item = l.getD k zeroWk := by unfold jobAt; rw [hf, Int.toNat_natCast]
                have hkl' : (k : Int) < l.length := by omega
                have hk0 : (0 : Int) ≤ k := by omega
                have hat2 := wks_at l k hkl
                have hz2 : ((l.getD k zeroWk).cells).length = 5 := rfl
                have c3 := until_ok (l.getD k zeroWk).af P (ha _ (getD_mem zeroWk hkl)).1 (by omega)
                rw [hf] at c2
                unfold lateR at hbad hnx
                rw [hja] at hbad hnx
                clear hk hf hja hsn hfn hj hR ha hfd
                generalize P.getD i zeroSty = x at *
                generalize l.getD k zeroWk = q at *
                generalize untilE q.af P = U at *
                cases h4 : decide (x.a < U)
                · have hnx := hnx h4
                  clear hbad
                  unfold rk3
                  repeat' (first
 | (apply Awp.sreg; (case hn => (simp only [List.length_cons, List.length_nil, Nat.reduceAdd] <;> rfl)))
 | (apply Awp.sdraw; (case hn => (simp only [List.length_cons, List.length_nil, Nat.reduceAdd] <;> rfl)))
 | (refine st_nil ?_)
 | (apply st_a; (case hc => rfl); (case he => (simp only [go_sem, *] <;> rfl)); (case hu => (simp only [updL_nil, updL_cons] <;> rfl)); (case hp => first | trivial))
 | (apply Awp.reg; (case hn => (simp only [List.length_cons, List.length_nil, Nat.reduceAdd] <;> rfl)))
 | (refine Awp.skip ?_; try simp only [go_sem, *])
 | refine Awp.block ?_
 | (apply Awp.cond; (case hc => (simp only [go_sem, *] <;> rfl)); all_goals (intro hg; (try simp only [Bool.not_true, Bool.not_false, reduceCtorEq] at hg)))
 | refine Awp.seq ?_
 | (apply sl_a; (case hc => rfl); (case he => (simp only [go_sem, *] <;> rfl)); (case hu => (simp only [updL_nil, updL_cons] <;> rfl)); (case hl => (simp only [List.map_cons, List.map_nil] <;> rfl)); (case hp => first | trivial | omega))
 | (apply sl_c; (case hc => (simp only [go_sem, *] <;> rfl)); (case hl => (simp only [go_sem, *] <;> rfl)); (case hn => (simp only [go_sem, *] <;> rfl)); (case hp => first | exact c2 | (have hXz := c2; simp only [go_sem, *] at hXz; exact hXz)); (case hd => first | exact .inl rfl | exact .inr (.v _) | exact .inr .any | exact .inr .nils | (refine .inr ?_; (repeat' (first | exact Dry.v _ | exact Dry.any | exact Dry.nils | exact Dry.slE | refine Dry.agg ?_ | refine Dry.tup ?_ | (refine List.forall_mem_cons.2 (And.intro ?_ ?_)) | (intro cQ hQ; cases hQ; done))); done)); (case hm => first | decide | (simp; done)))
 | (apply sl_c; (case hc => (simp only [go_sem, *] <;> rfl)); (case hl => (simp only [go_sem, *] <;> rfl)); (case hn => (simp only [go_sem, *] <;> rfl)); (case hp => first | exact c3 | (have hXz := c3; simp only [go_sem, *] at hXz; exact hXz)); (case hd => first | exact .inl rfl | exact .inr (.v _) | exact .inr .any | exact .inr .nils | (refine .inr ?_; (repeat' (first | exact Dry.v _ | exact Dry.any | exact Dry.nils | exact Dry.slE | refine Dry.agg ?_ | refine Dry.tup ?_ | (refine List.forall_mem_cons.2 (And.intro ?_ ?_)) | (intro cQ hQ; cases hQ; done))); done)); (case hm => first | decide | (simp; done)))
 | (refine sl_nil (And.intro (by first | exact drawOk_of (by decide +kernel) | (simp only [List.map_cons, List.map_nil]; exact drawOk_of (by decide +kernel)) | decide) ?_)))
                  refine ⟨i + 1, ⟨by omega, hnx⟩, by omega, ?_⟩
                  clear hnx
                  (apply Ghost.mk [] []; (case hdead => rfl); (case hinj => rfl); (case hV => (simp only [go_sem, *]) <;> (repeat' (first | exact View.int (by first | rfl | omega | (simp; done) | (rw [wrap_i64] <;> (try simp only [Int.natCast_add]) <;> omega) | (simp [*]; done))))); (case hB => (simp only [go_sem, *]) <;> (repeat' (first | skip; done))))
                · have hbad := hbad h4
                  subst hbad
                  clear hnx
                  unfold rk3
                  repeat' (first
 | (apply Awp.sreg; (case hn => (simp only [List.length_cons, List.length_nil, Nat.reduceAdd] <;> rfl)))
 | (apply Awp.sdraw; (case hn => (simp only [List.length_cons, List.length_nil, Nat.reduceAdd] <;> rfl)))
 | (refine st_nil ?_)
 | (apply st_a; (case hc => rfl); (case he => (simp only [go_sem, *] <;> rfl)); (case hu => (simp only [updL_nil, updL_cons] <;> rfl)); (case hp => first | trivial))
 | (refine Awp.ret ?_; try simp only [go_sem, *])
 | (refine Awp.skip ?_; try simp only [go_sem, *])
 | refine Awp.block ?_
 | (apply Awp.cond; (case hc => (simp only [go_sem, *] <;> rfl)); all_goals (intro hg; (try simp only [Bool.not_true, Bool.not_false, reduceCtorEq] at hg)))
 | refine Awp.seq ?_
 | (apply sl_a; (case hc => rfl); (case he => (simp only [go_sem, *] <;> rfl)); (case hu => (simp only [updL_nil, updL_cons] <;> rfl)); (case hl => (simp only [List.map_cons, List.map_nil] <;> rfl)); (case hp => first | trivial | omega))
 | (apply sl_c; (case hc => (simp only [go_sem, *] <;> rfl)); (case hl => (simp only [go_sem, *] <;> rfl)); (case hn => (simp only [go_sem, *] <;> rfl)); (case hp => first | exact c2 | (have hXz := c2; simp only [go_sem, *] at hXz; exact hXz)); (case hd => first | exact .inl rfl | exact .inr (.v _) | exact .inr .any | exact .inr .nils | (refine .inr ?_; (repeat' (first | exact Dry.v _ | exact Dry.any | exact Dry.nils | exact Dry.slE | refine Dry.agg ?_ | refine Dry.tup ?_ | (refine List.forall_mem_cons.2 (And.intro ?_ ?_)) | (intro cQ hQ; cases hQ; done))); done)); (case hm => first | decide | (simp; done)))
 | (apply sl_c; (case hc => (simp only [go_sem, *] <;> rfl)); (case hl => (simp only [go_sem, *] <;> rfl)); (case hn => (simp only [go_sem, *] <;> rfl)); (case hp => first | exact c3 | (have hXz := c3; simp only [go_sem, *] at hXz; exact hXz)); (case hd => first | exact .inl rfl | exact .inr (.v _) | exact .inr .any | exact .inr .nils | (refine .inr ?_; (repeat' (first | exact Dry.v _ | exact Dry.any | exact Dry.nils | exact Dry.slE | refine Dry.agg ?_ | refine Dry.tup ?_ | (refine List.forall_mem_cons.2 (And.intro ?_ ?_)) | (intro cQ hQ; cases hQ; done))); done)); (case hm => first | decide | (simp; done)))
 | (refine sl_nil (And.intro (by first | exact drawOk_of (by decide +kernel) | (simp only [List.map_cons, List.map_nil]; exact drawOk_of (by decide +kernel)) | decide) ?_)))
                  all_goals repeat' (first | exact Lower.int (by first | rfl | (simp only [true_and, Bool.true_and, Bool.false_and, Bool.and_true, Bool.and_false, Bool.true_or, Bool.false_or, reduceIte, Bool.false_eq_true, *]; done) | (simp only [true_and, reduceIte, Bool.false_eq_true, *] <;> rfl) | (simp [true_and]; done) | (simp_all [true_and]; done) | omega))
            · have hlt' : ¬ (i : Int) < P.length := by omega
              have hne : P.any (lateR l P) = false := any_endD (d := zeroSty) (by omega) hj
              rw [hne, if_neg (by decide)] at hR
              clear hj hne hfn hfd ha
              subst hR
              unfold rk3
              repeat' (first
 | (apply Awp.sreg; (case hn => (simp only [List.length_cons, List.length_nil, Nat.reduceAdd] <;> rfl)))
 | (refine st_nil ?_)
 | (apply st_a; (case hc => rfl); (case he => (simp only [go_sem, *] <;> rfl)); (case hu => (simp only [updL_nil, updL_cons] <;> rfl)); (case hp => first | trivial))
 | (refine Awp.ret ?_; try simp only [go_sem, *])
 | (refine Awp.exit ?_; try simp only [go_sem, *])
 | (apply Awp.cond; (case hc => (simp only [go_sem, *] <;> rfl)); all_goals (intro hg; (try simp only [Bool.not_true, Bool.not_false, reduceCtorEq] at hg)))
 | refine Awp.seq ?_)
              all_goals repeat' (first | exact Lower.int (by first | rfl | (simp only [true_and, Bool.true_and, Bool.false_and, Bool.and_true, Bool.and_false, Bool.true_or, Bool.false_or, reduceIte, Bool.false_eq_true, *]; done) | (simp only [true_and, reduceIte, Bool.false_eq_true, *] <;> rfl) | (simp [true_and]; done) | (simp_all [true_and]; done) | omega))
    · rw [if_pos hc]
      have hc' : (checkE bs P != 0) = true := by simpa using hc
      generalize checkE bs P = e at *
      clear ha
      refine fn_pure Tryz.F21 (Nat.le_of_ble_eq_true rfl) ?_; unfold Tryz.ac21 AR AM AO
      repeat' (first
 | (apply Awp.sreg; (case hn => (simp only [List.length_cons, List.length_nil, Nat.reduceAdd] <;> rfl)))
 | (refine st_nil ?_)
 | (apply st_a; (case hc => rfl); (case he => (simp only [go_sem, *] <;> rfl)); (case hu => (simp only [updL_nil, updL_cons] <;> rfl)); (case hp => first | trivial))
 | (apply st_c; (case hc => (simp only [go_sem, *] <;> rfl)); (case hl => (simp only [go_sem, *] <;> rfl)); (case hn => (simp only [go_sem, *] <;> rfl)); (case hp => first | exact c0 | (have hXz := c0; simp only [go_sem, *] at hXz; exact hXz)))
 | (apply st_c; (case hc => (simp only [go_sem, *] <;> rfl)); (case hl => (simp only [go_sem, *] <;> rfl)); (case hn => (simp only [go_sem, *] <;> rfl)); (case hp => first | exact c1 | (have hXz := c1; simp only [go_sem, *] at hXz; exact hXz)))
 | (refine Awp.ret ?_; try simp only [go_sem, *])
 | (refine Awp.skip ?_; try simp only [go_sem, *])
 | (apply Awp.cond; (case hc => (simp only [go_sem, *] <;> rfl)); all_goals (intro hg; (try simp only [Bool.not_true, Bool.not_false, reduceCtorEq] at hg); (try have hg' := hg); (try simp only [decide_eq_true_eq, decide_eq_false_iff_not, Bool.and_eq_true, Bool.or_eq_false_iff, bne_iff_ne, bne_eq_false_iff_eq, beq_iff_eq, beq_eq_false_iff_ne, Int.not_lt, Int.not_le, Int.ofNat_lt, Int.ofNat_le, Int.natCast_inj] at hg')))
 | refine Awp.seq ?_)
      all_goals repeat' (first | exact Lower.int (by first | rfl | (simp only [true_and, Bool.true_and, Bool.false_and, Bool.and_true, Bool.and_false, Bool.true_or, Bool.false_or, reduceIte, Bool.false_eq_true, *]; done) | (simp only [true_and, reduceIte, Bool.false_eq_true, *] <;> rfl) | (simp [true_and]; done) | (simp_all [true_and]; done) | omega))
  · rw [if_pos he]
    have he' : (e != 0) = true := by simpa using he
    clear ha
    refine fn_pure Tryz.F21 (Nat.le_of_ble_eq_true rfl) ?_; unfold Tryz.ac21 AR AM AO
    repeat' (first
 | (apply Awp.sreg; (case hn => (simp only [List.length_cons, List.length_nil, Nat.reduceAdd] <;> rfl)))
 | (refine st_nil ?_)
 | (apply st_a; (case hc => rfl); (case he => (simp only [go_sem, *] <;> rfl)); (case hu => (simp only [updL_nil, updL_cons] <;> rfl)); (case hp => first | trivial))
 | (apply st_c; (case hc => (simp only [go_sem, *] <;> rfl)); (case hl => (simp only [go_sem, *] <;> rfl)); (case hn => (simp only [go_sem, *] <;> rfl)); (case hp => first | exact c0 | (have hXz := c0; simp only [go_sem, *] at hXz; exact hXz)))
 | (refine Awp.ret ?_; try simp only [go_sem, *])
 | (apply Awp.cond; (case hc => (simp only [go_sem, *] <;> rfl)); all_goals (intro hg; (try simp only [Bool.not_true, Bool.not_false, reduceCtorEq] at hg); (try have hg' := hg); (try simp only [decide_eq_true_eq, decide_eq_false_iff_not, Bool.and_eq_true, Bool.or_eq_false_iff, bne_iff_ne, bne_eq_false_iff_eq, beq_iff_eq, beq_eq_false_iff_ne, Int.not_lt, Int.not_le, Int.ofNat_lt, Int.ofNat_le, Int.natCast_inj] at hg')))
 | refine Awp.seq ?_)
    all_goals repeat' (first | exact Lower.int (by first | rfl | (simp only [true_and, Bool.true_and, Bool.false_and, Bool.and_true, Bool.and_false, Bool.true_or, Bool.false_or, reduceIte, Bool.false_eq_true, *]; done) | (simp only [true_and, reduceIte, Bool.false_eq_true, *] <;> rfl) | (simp [true_and]; done) | (simp_all [true_and]; done) | omega))
abbrev Ed := Nat × Nat
def nts (D : List Nat) : List (List AV) := D.map fun x => [.v (.int .i64 (x : Nat))]
@[go_sem] theorem nts_nil : nts [] = [] := rfl
def wtF (n : Nat) (T : List Bool) (E : List Ed) : List Bool := E.foldl (fun w e => if T.getD e.1 false then w else w.set e.2 true) (List.replicate n false)
def availB (n : Nat) (T : List Bool) (E : List Ed) (v : Nat) : Bool := !(T.getD v false) && !((wtF n T E).getD v false)
def dnQ (p : Nat → Bool) (n m : Nat) : Int := match (List.range' m (n - m)).find? p with
  | some v => (v : Int)
  | none => -1
def dordG (n : Nat) (E : List Ed) : Nat → List Bool → List Nat → List Nat × Int
  | 0, _, D => (D, 0)
  | k + 1, T, D => if dnQ (availB n T E) n 0 < 0 then ([], 20) else dordG n E k (T.set (dnQ (availB n T E) n 0).toNat true) (D ++ [(dnQ (availB n T E) n 0).toNat])
end Go.Proofs
namespace Go.Proofs
open Go Go.Ab
set_option maxHeartbeats 1000000
theorem getD_set_self {α : Type} {l : List α} {i : Nat} {x d : α} (h : i < l.length) : (l.set i x).getD i d = x := by
  simp [List.getD_eq_getElem?_getD, h]
theorem getD_set_ne {α : Type} {l : List α} {i j : Nat} {x d : α} (h : i ≠ j) : (l.set i x).getD j d = l.getD j d := by
  simp [List.getD_eq_getElem?_getD, List.getElem?_set, h]
theorem nodup_sub_len {α : Type} [DecidableEq α] : ∀ {A B : List α}, A.Nodup → (∀ x ∈ A, x ∈ B) → A.length ≤ B.length
  | [], _, _, _ => Nat.zero_le _
  | a :: A, B, hd, hs => by
    obtain ⟨h1, h2⟩ := List.nodup_cons.1 hd
    have hm := hs a List.mem_cons_self
    have := nodup_sub_len (A := A) (B := B.erase a) h2 fun x hx => by
      have hne : x ≠ a := fun e => h1 (by rw [← e]; exact hx)
      rw [List.mem_erase_of_ne hne]
      exact hs x (List.mem_cons_of_mem _ hx)
    rw [List.length_erase_of_mem hm] at this
    have := List.length_pos_of_mem hm
    rw [List.length_cons]; omega
end Go.Proofs
namespace Go.Proofs
open Go Go.Ab
set_option maxHeartbeats 8000000
set_option maxRecDepth 100000
attribute [local irreducible] Awp aops aopsL Go.Ab.Pure PureOwn PureTwoM
end Go.Proofs
namespace Go.Proofs
open Go Go.Ab
set_option maxHeartbeats 1000000
/-- An order of jobs. -/
structure OrdOk (l S : List Wk) : Prop where
  nd : (ids S).Nodup
  mem : ∀ q ∈ S, q ∈ l
  all : ∀ t ∈ ids l, t ∈ ids S
  bef : ∀ k, k < S.length → ∀ s ∈ (S.getD k zeroWk).af, s ∈ ids (S.take k)
theorem take_app {α : Type} (a b : List α) (k : Nat) (h : k ≤ a.length) : (a ++ b).take k = a.take k := List.take_append_of_le_length h
theorem getD_app {α : Type} {a b : List α} {k : Nat} {d : α} (h : k < a.length) : (a ++ b).getD k d = a.getD k d := by
  simp [List.getD_eq_getElem?_getD, List.getElem?_append, h]
theorem ordG_ok {l : List Wk} (hw : ∀ q ∈ l, wantB l q = true) : ∀ (n : Nat) (W out : List Wk), (ids W).Nodup → (∀ t, t ∈ ids W ↔ t ∈ ids l ∧ t ∉ ids out) → (ids out).Nodup → (∀ q ∈ out, q ∈ l) →
    (∀ k, k < out.length → ∀ s ∈ (out.getD k zeroWk).af, s ∈ ids (out.take k)) → W.length = n → (ordG (sortW l) n W out).2 = 0 → OrdOk l (ordG (sortW l) n W out).1
  | 0, W, out, hW, hm, ho, hq, hb, hn, _ => by
    refine ⟨ho, hq, fun t ht => Classical.byContradiction fun hx => ?_, hb⟩
    have := (hm t).2 ⟨ht, hx⟩
    rw [List.length_eq_zero_iff.1 hn] at this
    cases this
  | n + 1, W, out, hW, hm, ho, hq, hb, hn, he => by
    have hstep : ordG (sortW l) (n + 1) W out = if idxF (readyB W) (sortW l) < 0 then ([], 20) else ordG (sortW l) n (delW W ((sortW l).getD (idxF (readyB W) (sortW l)).toNat zeroWk).id) (out ++ [(sortW l).getD (idxF (readyB W) (sortW l)).toNat zeroWk]) := rfl
    rw [hstep] at he ⊢
    rcases idxF_cases (readyB W) (sortW l) zeroWk with ⟨hi, _⟩ | ⟨i, hi, hlt, hrb⟩
    · rw [if_pos hi] at he; cases he
    · rw [hi, if_neg (by omega), Int.toNat_natCast] at he ⊢
      have hql : (sortW l).getD i zeroWk ∈ l := (sortW_perm l).mem_iff.1 (getD_mem _ hlt)
      generalize (sortW l).getD i zeroWk = q at *
      unfold readyB at hrb
      rw [Bool.and_eq_true, Bool.not_eq_true', List.any_eq_false] at hrb
      obtain ⟨hr1, hr2⟩ := hrb
      have hqW := hasK_iff.1 hr1
      have hqo : q.id ∉ ids out := ((hm _).1 hqW).2
      have hids : ids (out ++ [q]) = ids out ++ [q.id] := by simp [ids]
      refine ordG_ok hw n _ _ (delW_nodup _ hW) (fun t => ?_) ?_ ?_ ?_ (by have := delW_len hr1; omega) he
      · rw [delW_mem hW, hm, hids, List.mem_append, List.mem_singleton, not_or]
        exact and_assoc
      · rw [hids, List.nodup_append]
        refine ⟨ho, by simp, fun a ha b hb2 e => ?_⟩
        rw [List.mem_singleton] at hb2
        rw [e, hb2] at ha; exact hqo ha
      · intro x hx
        rcases List.mem_append.1 hx with hx | hx
        · exact hq x hx
        · rw [List.mem_singleton] at hx; rw [hx]; exact hql
      · intro k hk s hs
        rw [List.length_append, List.length_singleton] at hk
        by_cases hkl : k < out.length
        · rw [getD_app hkl] at hs
          rw [take_app _ _ _ (by omega)]
          exact hb k hkl s hs
        · have hk2 : k = out.length := by omega
          subst hk2
          have e1 : (out ++ [q]).getD out.length zeroWk = q := by simp [List.getD_eq_getElem?_getD]
          rw [e1] at hs
          rw [take_app _ _ _ (Nat.le_refl _), List.take_length]
          have h1 : s ∈ ids l := hasK_iff.1 (List.all_eq_true.1 (hw q hql) s hs)
          refine Classical.byContradiction fun hx => hr2 s hs (hasK_iff.2 ((hm s).2 ⟨h1, hx⟩))
theorem ordE_jobs {l : List Wk} (h : (ordE l).2 = 0) : jobsE l = 0 := by
  unfold ordE at h
  split at h
  · rename_i h1; exact absurd h h1
  · rename_i h1; simpa using h1
theorem ordE_ok {l : List Wk} (h : (ordE l).2 = 0) : OrdOk l (ordE l).1 := by
  have hj := ordE_jobs h
  unfold ordE at h ⊢
  rw [if_neg (by simp [hj])] at h ⊢
  exact ordG_ok (jobsE_inv hj).2.2 l.length l [] (ids_nodup hj) (fun t => by simp [ids]) (by simp [ids]) (by simp) (by simp) rfl h
theorem OrdOk.len {l S : List Wk} (h : OrdOk l S) (hl : (ids l).Nodup) : S.length = l.length := by
  have h1 : (ids S).length ≤ (ids l).length := nodup_sub_len h.nd fun t ht => by
    obtain ⟨q, hq, rfl⟩ := List.mem_map.1 ht
    exact List.mem_map.2 ⟨q, h.mem q hq, rfl⟩
  have h2 : (ids l).length ≤ (ids S).length := nodup_sub_len hl h.all
  rw [ids_len, ids_len] at h1 h2
  omega
theorem mapIx_app (K : List ByteArray) (s t : ByteArray) : mapIx (K ++ [s]) t = match mapIx K t with
  | some i => some i
  | none => if t = s then some K.length else none := by
  have e : mapIx (K ++ [s]) t = (mapIx K t).or (Option.map (fun i => i + K.length) (List.findIdx? (fun x => t.toList == x.toList) [s])) := by
    unfold mapIx; rw [List.findIdx?_append]
  rw [e]
  cases mapIx K t with
  | some i => rfl
  | none =>
    by_cases h : t = s
    · subst h; simp
    · have h2 : (t.toList == s.toList) = false := by rw [beq_eq_false_iff_ne]; exact fun e => h (str_eq e)
      simp [h, h2, List.findIdx?_cons]
theorem pK_in {K : List ByteArray} {s : ByteArray} {i : Nat} (h : mapIx K s = some i) : pK K s = K := by
  obtain ⟨h1, h2⟩ := mapIx_at h
  unfold pK
  rw [h]
  show K.set i s = K
  rw [List.getElem?_eq_getElem h1, Option.some.injEq] at h2
  rw [← h2, List.set_getElem_self]
theorem pK_out {K : List ByteArray} {s : ByteArray} (h : mapIx K s = none) : pK K s = K ++ [s] := by unfold pK; rw [h]; rfl
theorem ids_at {S : List Wk} {k : Nat} (h : k < S.length) : (S.getD k zeroWk).id ∈ ids S := List.mem_map.2 ⟨_, getD_mem _ h, rfl⟩
theorem findW_in {l : List Wk} {s : ByteArray} (h : s ∈ ids l) : ∃ i, findW l s = (i : Nat) ∧ i < l.length ∧ (l.getD i zeroWk).id = s := by
  rcases idxF_cases (isN s) l zeroWk with ⟨h1, _⟩ | ⟨i, h1, h2, h3⟩
  · have h1 : findW l s < 0 := h1
    rw [findW_lt, hasK_iff.2 h] at h1; cases h1
  · unfold isN at h3
    exact ⟨i, h1, h2, str_eq (beq_iff_eq.1 h3)⟩
theorem findW_at {l : List Wk} (hn : (ids l).Nodup) {i : Nat} (hi : i < l.length) : findW l (l.getD i zeroWk).id = i := by
  obtain ⟨j, h1, h2, h3⟩ := findW_in (ids_at hi)
  rw [h1, ids_inj hn h2 hi h3]
theorem rng_hr {q : Wk} (h : rngW q = false) : 1 ≤ q.hr ∧ q.hr ≤ 1048576 ∧ 1 ≤ q.len ∧ q.len ≤ 524288 ∧ 1 ≤ q.wid ∧ q.wid ≤ 524288 := by
  unfold rngW at h
  simp only [Bool.or_eq_false_iff, Bool.not_eq_false', Bool.and_eq_true, decide_eq_true_eq] at h
  omega
theorem jobs_rng {l : List Wk} (h : jobsE l = 0) : ∀ q ∈ l, 1 ≤ q.hr ∧ q.hr ≤ 1048576 ∧ 1 ≤ q.len ∧ q.len ≤ 524288 ∧ 1 ≤ q.wid ∧ q.wid ≤ 524288 := by
  intro q hq
  obtain ⟨i, hi, hie⟩ := List.getElem_of_mem hq
  have := (badW_inv ((jobsE_inv h).2.1 i hi)).2.2
  have e1 : l.getD i zeroWk = q := by simp [List.getD_eq_getElem?_getD, hi, hie]
  rw [e1] at this
  exact rng_hr this
end Go.Proofs
namespace Go.Proofs
open Go Go.Ab
set_option maxHeartbeats 4000000
set_option maxRecDepth 100000
def insI (x : Int) : List Int → List Int
  | [] => [x]
  | y :: l => if x ≤ y then x :: y :: l else y :: insI x l
def isortI : List Int → List Int
  | [] => []
  | x :: l => insI x (isortI l)
theorem insI_perm (x : Int) : ∀ l, (insI x l).Perm (x :: l)
  | [] => .refl _
  | y :: l => by
    unfold insI
    split
    · exact .refl _
    · exact ((insI_perm x l).cons y).trans (.swap x y l)
theorem isortI_perm : ∀ l, (isortI l).Perm l
  | [] => .refl _
  | x :: l => (insI_perm x _).trans ((isortI_perm l).cons x)
theorem insI_asc (x : Int) : ∀ l : List Int, l.Pairwise (· ≤ ·) → (insI x l).Pairwise (· ≤ ·)
  | [], _ => by simp [insI]
  | y :: l, h => by
    rw [List.pairwise_cons] at h
    unfold insI
    split
    · rename_i hxy
      refine List.pairwise_cons.2 ⟨fun z hz => ?_, List.pairwise_cons.2 h⟩
      rcases List.mem_cons.1 hz with rfl | hz
      · exact hxy
      · exact Int.le_trans hxy (h.1 z hz)
    · rename_i hxy
      refine List.pairwise_cons.2 ⟨fun z hz => ?_, insI_asc x l h.2⟩
      rcases List.mem_cons.1 ((insI_perm x l).mem_iff.1 hz) with rfl | hz
      · omega
      · exact h.1 z hz
theorem isortI_asc : ∀ l, (isortI l).Pairwise (· ≤ ·)
  | [] => .nil
  | x :: l => insI_asc x _ (isortI_asc l)
theorem asc_perm_eq : ∀ {l m : List Int}, l.Perm m → l.Pairwise (· ≤ ·) → m.Pairwise (· ≤ ·) → l = m
  | [], m, h, _, _ => by rw [List.nil_perm.1 h]
  | a :: l, [], h, _, _ => by simp at h
  | a :: l, b :: m, h, hl, hm => by
    have hl' := List.pairwise_cons.1 hl
    have hm' := List.pairwise_cons.1 hm
    have hab : a = b := by
      rcases List.mem_cons.1 (h.mem_iff.1 (List.mem_cons.2 (.inl rfl))) with e | e
      · exact e
      · rcases List.mem_cons.1 (h.mem_iff.2 (List.mem_cons.2 (.inl rfl))) with e' | e'
        · exact e'.symm
        · have := hl'.1 b e'; have := hm'.1 a e; omega
    subst hab
    rw [asc_perm_eq ((List.perm_cons a).1 h) hl'.2 hm'.2]
theorem sortI_isort (l : List Int) : sortI l = isortI l :=
  asc_perm_eq ((List.mergeSort_perm l _).trans (isortI_perm l).symm) (sortZ_asc l) (isortI_asc l)
def spotE' (bs : List By) (l : List Sty) (x : Sty) : Sty × Bool := match scanE (placeB bs l x) (Lib.compact (isortI (lowL l x))) (Lib.compact (isortI (leftL l x))) with
  | some (X, Y) => (x.at_ X Y, true)
  | none => (zeroSty, false)
theorem spotE_eq (bs : List By) (l : List Sty) (x : Sty) : spotE bs l x = spotE' bs l x := by
  unfold spotE spotE'
  rw [sortI_isort, sortI_isort]
  all_goals (generalize scanE (placeB bs l x) (Lib.compact (isortI (lowL l x))) (Lib.compact (isortI (leftL l x))) = o; cases o <;> rfl)
def tryB' (bs : List By) (l : List Sty) (x : Sty) (h t : Int) (q : By) : Option Sty := if (spotE' bs l (x.when q.nm t (IntKind.i64.wrap (t + h)))).2 then some (spotE' bs l (x.when q.nm t (IntKind.i64.wrap (t + h)))).1 else none
theorem tryB_eq (bs : List By) (l : List Sty) (x : Sty) (h t : Int) : tryB bs l x h t = tryB' bs l x h t := by
  funext q
  unfold tryB tryB'
  rw [spotE_eq]
def fitS' (bs : List By) (l : List Sty) (x : Sty) (h : Int) : Option Sty := (Lib.compact (isortI (endsL l x.a))).findSome? fun t => bs.findSome? (tryB' bs l x h t)
theorem fitS_eq (bs : List By) (l : List Sty) (x : Sty) (h : Int) : fitS bs l x h = fitS' bs l x h := by
  unfold fitS fitS' startsZ
  rw [sortI_isort]
  congr 1
  funext t
  rw [tryB_eq]
theorem fitE_some {bs : List By} {l : List Sty} {x y : Sty} {h : Int} (h1 : checkE bs l = 0) (h2 : idB x.item = true) (h3 : fitR x h = false) (h4 : decide ((128 : Int) ≤ l.length) = false) (h5 : fitS' bs l x h = some y) : fitE bs l x h = (y, 0) := by
  unfold fitE
  rw [h1, h2, h3, h4, fitS_eq, h5]; rfl
attribute [local irreducible] Awp aops aopsL Go.Ab.Pure PureOwn
end Go.Proofs
namespace Go.Proofs
open Go Go.Ab
set_option maxHeartbeats 8000000
set_option maxRecDepth 100000
attribute [local irreducible] Awp aops aopsL Go.Ab.Pure PureOwn
theorem few_size {bs : List By} {l : List Sty} (h : fewB bs l = true) : bs.length ≤ 12 ∧ l.length ≤ 60 ∧ ∀ i, i < l.length → (l.getD i zeroSty).item.size ≤ 100 := by
  unfold fewB noneBig at h
  simp only [Bool.and_eq_true, decide_eq_true_eq, List.all_eq_true, List.mem_range] at h
  obtain ⟨⟨⟨_, h2⟩, h3⟩, h4⟩ := h
  refine ⟨by omega, by omega, fun i hi => ?_⟩
  have := h2 i (by omega)
  simp [bigSty] at this
  rw [List.getD_eq_getElem?_getD]
  omega
structure Pl where
  bays : List By
  stays : List Sty
def Pl.av (p : Pl) : AV := .agg [.sl (bys p.bays), .sl (stys p.stays)]
attribute [go_sem] Pl.av
end Go.Proofs
namespace Go.Proofs
open Go Go.Ab
def good (bs : List By) (x : Sty) : Bool := idB x.item && (findB bs x.bay).2 && !rngB x && !offB (findB bs x.bay).1 x
theorem stayE_zero (bs : List By) (l : List Sty) (x : Sty) : stayE bs l x = 0 ↔ good bs x = true ∧ ∀ q ∈ l, overB x q = false := by
  unfold stayE good
  cases idB x.item <;> cases (findB bs x.bay).2 <;> cases rngB x <;> cases offB (findB bs x.bay).1 x <;> simp
theorem cutB_symm (a la b lb : Int) : cutB a la b lb = cutB b lb a la := by unfold cutB; rw [Bool.and_comm]
theorem overB_symm (p q : Sty) : overB p q = overB q p := by
  unfold overB
  rw [cutB_symm p.x, cutB_symm p.y, Bool.beq_comm]
  cases (q.bay.toList == p.bay.toList) <;> cases decide (p.a < q.b) <;> cases decide (q.a < p.b) <;> rfl
def apart (p q : Sty) : Prop := overB p q = false
def baysOk (bs : List By) : Prop := bs.length ≤ 8 ∧ ∀ i, i < bs.length → bayAt bs i = 0
theorem checkE_iff (bs : List By) (l : List Sty) : checkE bs l = 0 ↔ baysOk bs ∧ l.length ≤ 128 ∧ (∀ x ∈ l, good bs x = true) ∧ l.Pairwise apart := by
  have hst : firstE (fun i => stayE bs (l.take i) (l.getD i zeroSty)) l.length = 0 ↔ (∀ x ∈ l, good bs x = true) ∧ l.Pairwise apart := by
    rw [firstE_zero]
    have hget : ∀ i (h : i < l.length), l.getD i zeroSty = l[i] := fun i h => by simp [List.getD_eq_getElem?_getD, h]
    constructor
    · intro h
      refine ⟨fun x hx => ?_, List.pairwise_iff_getElem.2 fun i j hi hj hij => ?_⟩
      · obtain ⟨i, hi, rfl⟩ := List.getElem_of_mem hx
        have := ((stayE_zero _ _ _).1 (h i hi)).1
        rwa [hget i hi] at this
      · have := ((stayE_zero _ _ _).1 (h j hj)).2 l[i] (List.mem_take_iff_getElem.2 ⟨i, by omega, rfl⟩)
        rw [hget j hj, overB_symm] at this
        exact this
    · rintro ⟨h1, h2⟩ i hi
      rw [stayE_zero, hget i hi]
      refine ⟨h1 _ (List.getElem_mem hi), fun q hq => ?_⟩
      obtain ⟨j, hj, rfl⟩ := List.mem_take_iff_getElem.1 hq
      have := List.pairwise_iff_getElem.1 h2 j i (by omega) hi (by omega)
      rw [overB_symm]
      exact this
  unfold checkE
  by_cases h1 : bs.length ≤ 8 ∧ l.length ≤ 128
  · rw [if_neg (by simp; omega)]
    by_cases h2 : firstE (bayAt bs) bs.length = 0
    · rw [if_neg (by rw [h2]; simp), hst]
      exact ⟨fun h => ⟨⟨h1.1, (firstE_zero _ _).1 h2⟩, h1.2, h⟩, fun h => h.2.2⟩
    · rw [if_pos (by simpa using h2)]
      exact ⟨fun h => absurd h h2, fun h => absurd ((firstE_zero _ _).2 h.1.2) h2⟩
  · rw [if_pos (by simp; omega)]
    exact ⟨fun h => by simp at h, fun h => absurd ⟨h.1.1, h.2.1⟩ h1⟩
theorem bay_wid {bs : List By} (h : baysOk bs) {nm : ByteArray} (hf : (findB bs nm).2 = true) : 1 ≤ (findB bs nm).1.len ∧ (findB bs nm).1.len ≤ 524288 ∧ 1 ≤ (findB bs nm).1.wid ∧ (findB bs nm).1.wid ≤ 524288 := by
  unfold findB at hf ⊢
  split at hf
  · simp at hf
  · rename_i hi
    rw [if_neg hi]
    dsimp only
    unfold idxF at hi ⊢
    split at hi
    · rename_i hlt
      rw [if_pos hlt]
      have hb := h.2 _ hlt
      rw [Int.toNat_natCast]
      generalize bs.findIdx _ = i at *
      unfold bayAt sideB at hb
      generalize bs.getD i zeroBy = q at *
      split at hb
      · simp at hb
      · split at hb
        · simp at hb
        · rename_i h2
          simp only [Bool.or_eq_true, Bool.not_eq_true', Bool.and_eq_false_iff, decide_eq_false_iff_not, not_or, Classical.not_not] at h2
          omega
    · simp at hi
theorem good_box {bs : List By} (hb : baysOk bs) {x : Sty} (h : good bs x = true) : 1 ≤ x.len ∧ 1 ≤ x.wid ∧ 0 ≤ x.x ∧ 0 ≤ x.y ∧ x.x + x.len ≤ (findB bs x.bay).1.len ∧ x.y + x.wid ≤ (findB bs x.bay).1.wid ∧ x.x + x.len ≤ 524288 ∧ x.y + x.wid ≤ 524288 ∧ 0 ≤ x.a ∧ x.a < x.b ∧ x.b ≤ 1048576 ∧ (findB bs x.bay).2 = true ∧ idB x.item = true := by
  unfold good at h
  simp only [Bool.and_eq_true, Bool.not_eq_true'] at h
  obtain ⟨⟨⟨h1, h2⟩, h3⟩, h4⟩ := h
  have hw := bay_wid hb h2
  unfold rngB sideB at h3
  unfold offB at h4
  generalize (findB bs x.bay).1 = q at *
  simp only [Bool.or_eq_false_iff, Bool.not_eq_false', Bool.and_eq_true, decide_eq_true_eq, decide_eq_false_iff_not] at h3 h4
  have e1 : IntKind.i64.wrap (q.len - x.len) = q.len - x.len := wrap_i64 (by omega) (by omega)
  have e2 : IntKind.i64.wrap (q.wid - x.wid) = q.wid - x.wid := wrap_i64 (by omega) (by omega)
  rw [e1, e2] at h4
  refine ⟨by omega, by omega, by omega, by omega, by omega, by omega, by omega, by omega, by omega, by omega, by omega, h2, h1⟩
end Go.Proofs
namespace Go.Proofs
open Go Go.Ab
set_option maxHeartbeats 1000000
theorem getS_self {K : List ByteArray} {V : List Sty} (hl : V.length = K.length) (s : ByteArray) (n : Sty) : getS (pK K s) (pV K V s n) s = n := by
  cases h : mapIx K s with
  | some i =>
    obtain ⟨h1, h2⟩ := mapIx_at h
    rw [pK_in h]
    unfold getS pV
    rw [h]
    simp only
    exact getD_set_self (by omega)
  | none =>
    rw [pK_out h]
    unfold getS pV
    rw [mapIx_app, h]
    simp only [if_true]
    simp [List.getD_eq_getElem?_getD, ← hl]
theorem getS_ne {K : List ByteArray} {V : List Sty} (hl : V.length = K.length) {s t : ByteArray} (hne : t ≠ s) (n : Sty) : getS (pK K s) (pV K V s n) t = getS K V t := by
  cases h : mapIx K s with
  | some i =>
    obtain ⟨h1, h2⟩ := mapIx_at h
    rw [pK_in h]
    unfold getS pV
    rw [h]
    cases h3 : mapIx K t with
    | none => rfl
    | some j =>
      simp only
      refine getD_set_ne fun e => hne ?_
      obtain ⟨_, h4⟩ := mapIx_at h3
      rw [← e, h2] at h4
      exact (Option.some.inj h4).symm
  | none =>
    rw [pK_out h]
    unfold getS pV
    rw [mapIx_app, h]
    cases h3 : mapIx K t with
    | none => simp only [if_neg hne]
    | some j =>
      simp only
      exact getD_app (by have := (mapIx_at h3).1; omega)
theorem pK_mem {K : List ByteArray} {s t : ByteArray} : t ∈ pK K s ↔ t ∈ K ∨ t = s := by
  cases h : mapIx K s with
  | some i =>
    rw [pK_in h]
    refine ⟨.inl, fun h2 => h2.elim id fun e => ?_⟩
    obtain ⟨_, h3⟩ := mapIx_at h
    rw [e]; exact List.mem_of_getElem? h3
  | none => rw [pK_out h, List.mem_append, List.mem_singleton]
def its (P : List Sty) : List ByteArray := P.map (·.item)
theorem its_len (P : List Sty) : (its P).length = P.length := by simp [its]
theorem getD_at {α : Type} {l : List α} {d : α} {i : Nat} (h : i < l.length) : l.getD i d = l[i] := by simp [List.getD_eq_getElem?_getD, h]
theorem its_inj {P : List Sty} (h : (its P).Nodup) {i j : Nat} (hi : i < P.length) (hj : j < P.length) (e : (P.getD i zeroSty).item = (P.getD j zeroSty).item) : i = j := by
  have hil : i < (its P).length := by rw [its_len]; exact hi
  refine (List.getElem?_inj hil h).1 ?_
  unfold its
  rw [List.getElem?_map, List.getElem?_map, List.getElem?_eq_getElem hi, List.getElem?_eq_getElem hj]
  rw [getD_at hi, getD_at hj] at e
  simp [e]
theorem its_take1 {P : List Sty} {i : Nat} (h : i < P.length) : its (P.take (i + 1)) = its (P.take i) ++ [(P.getD i zeroSty).item] := by
  unfold its
  rw [List.take_add_one, List.getElem?_eq_getElem h, getD_at h, List.map_append]; rfl
theorem smG_len' (P : List Sty) : (smG P).V.length = (smG P).K.length := smG_len P ⟨[], []⟩ rfl
theorem sm_keys (P : List Sty) : ∀ i, i ≤ P.length → (∀ t, t ∈ (smG (P.take i)).K ↔ t ∈ its (P.take i)) ∧ (smG (P.take i)).K.length ≤ i ∧ ((smG (P.take i)).K.length = i ↔ (its (P.take i)).Nodup)
  | 0, _ => by simp [smG, its]
  | i + 1, hi => by
    obtain ⟨h1, h2, h3⟩ := sm_keys P i (by omega)
    rw [smG_step P i (by omega)]
    have hlt : i < P.length := by omega
    rw [its_take1 hlt]
    generalize P.getD i zeroSty = x at *
    refine ⟨fun t => ?_, ?_⟩
    · show t ∈ pK _ _ ↔ _
      rw [pK_mem, h1, List.mem_append, List.mem_singleton]
    · show (pK _ _).length ≤ _ ∧ _
      cases h : mapIx (smG (P.take i)).K x.item with
      | some k =>
        have hK : (smS (smG (P.take i)) x).K = (smG (P.take i)).K := pK_in h
        rw [hK, pK_in h]
        have hx : x.item ∈ its (P.take i) := (h1 _).1 (List.mem_of_getElem? (mapIx_at h).2)
        refine ⟨by omega, ?_⟩
        constructor
        · omega
        · rw [List.nodup_append]
          intro hh
          exact absurd rfl (hh.2.2 _ hx x.item (by simp))
      | none =>
        have hK : (smS (smG (P.take i)) x).K = (smG (P.take i)).K ++ [x.item] := pK_out h
        rw [hK, pK_out h, List.length_append, List.length_singleton]
        have hx : x.item ∉ its (P.take i) := fun hh => by
          rw [mapIx_none, ← Bool.not_eq_true, hasK_iff, h1] at h
          exact h hh
        refine ⟨by omega, ?_⟩
        rw [List.nodup_append]
        constructor
        · intro hh
          refine ⟨h3.1 (by omega), by simp, fun a ha b hb e => ?_⟩
          rw [List.mem_singleton] at hb
          rw [e, hb] at ha; exact hx ha
        · rintro ⟨hh, _⟩
          have := h3.2 hh; omega
theorem sm_mem (P : List Sty) (t : ByteArray) : t ∈ (smG P).K ↔ t ∈ its P := by
  have := (sm_keys P P.length (Nat.le_refl _)).1 t
  rwa [List.take_length] at this
theorem sm_nd (P : List Sty) : (smG P).K.length = P.length ↔ (its P).Nodup := by
  have := (sm_keys P P.length (Nat.le_refl _)).2.2
  rwa [List.take_length] at this
theorem sm_get' {P : List Sty} (hn : (its P).Nodup) : ∀ i, i ≤ P.length → ∀ j, j < i → getS (smG (P.take i)).K (smG (P.take i)).V (P.getD j zeroSty).item = P.getD j zeroSty
  | 0, _, j, hj => by omega
  | i + 1, hi, j, hj => by
    rw [smG_step P i (by omega)]
    by_cases hji : j = i
    · subst hji
      exact getS_self (smG_len' _) _ _
    · have hne : (P.getD j zeroSty).item ≠ (P.getD i zeroSty).item := fun e => hji (its_inj hn (by omega) (by omega) e)
      rw [← sm_get' hn i (by omega) j (by omega)]
      rw [sm_get' hn i (by omega) j (by omega)]
      have := getS_ne (smG_len' (P.take i)) hne (P.getD i zeroSty)
      rw [sm_get' hn i (by omega) j (by omega)] at this
      exact this
theorem sm_get {P : List Sty} (hn : (its P).Nodup) {x : Sty} (hx : x ∈ P) : getS (smG P).K (smG P).V x.item = x := by
  obtain ⟨j, hj, rfl⟩ := List.getElem_of_mem hx
  have := sm_get' hn P.length (Nat.le_refl _) j hj
  rw [List.take_length, getD_at hj] at this
  exact this
theorem its_mem {P : List Sty} {t : ByteArray} : t ∈ its P ↔ ∃ x ∈ P, x.item = t := by unfold its; rw [List.mem_map]
theorem ck_rng {bs : List By} {P : List Sty} (h : checkE bs P = 0) {x : Sty} (hx : x ∈ P) : 0 ≤ x.a ∧ x.a < x.b ∧ x.b ≤ 1048576 := by
  have hC := (checkE_iff bs P).1 h
  have := good_box hC.1 (hC.2.2.1 x hx)
  omega
/-- What holds of the jobs' order. -/
theorem ord_all {l : List Wk} (hE : (ordE l).2 = 0) : jobsE l = 0 ∧ OrdOk l (ordE l).1 ∧ (ids l).Nodup ∧ (ordE l).1.length = l.length :=
  ⟨ordE_jobs hE, ordE_ok hE, ids_nodup (ordE_jobs hE), (ordE_ok hE).len (ids_nodup (ordE_jobs hE))⟩
theorem ord_mem {l : List Wk} (hE : (ordE l).2 = 0) (q : Wk) : q ∈ (ordE l).1 ↔ q ∈ l := by
  obtain ⟨_, h, hn, _⟩ := ord_all hE
  refine ⟨h.mem q, fun hq => ?_⟩
  obtain ⟨q2, hq2, e⟩ := List.mem_map.1 (h.all q.id (List.mem_map.2 ⟨q, hq, rfl⟩))
  obtain ⟨i, hi, hie⟩ := List.getElem_of_mem hq
  obtain ⟨j, hj, hje⟩ := List.getElem_of_mem (h.mem q2 hq2)
  have := ids_inj hn hi hj (by rw [getD_at hi, getD_at hj, hie, hje, e])
  subst this
  rw [hie] at hje
  rw [hje]; exact hq2
theorem job_id {l : List Wk} (hn : (ids l).Nodup) {q : Wk} (hq : q ∈ l) : jobAt l q.id = q ∧ ¬ findW l q.id < 0 := by
  obtain ⟨i, hi, hie⟩ := List.getElem_of_mem hq
  have := findW_at hn hi
  rw [getD_at hi, hie] at this
  unfold jobAt
  rw [this, Int.toNat_natCast, getD_at hi, hie]
  exact ⟨rfl, by omega⟩
theorem badS_iff {l : List Wk} {P : List Sty} {bs : List By} (hn : (ids l).Nodup) (hr : ∀ q ∈ l, 1 ≤ q.hr ∧ q.hr ≤ 1048576) (hc : checkE bs P = 0) (hd : (its P).Nodup) {q : Wk} (hq : q ∈ l) :
    badS (smG P) q = false ↔ ∃ y ∈ P, y.item = q.id ∧ y.len = q.len ∧ y.wid = q.wid ∧ y.b = y.a + q.hr := by
  unfold badS
  simp only [Bool.or_eq_false_iff, Bool.not_eq_false', bne_eq_false_iff_eq]
  rw [hasK_iff, sm_mem, its_mem]
  constructor
  · rintro ⟨⟨⟨⟨y, hy, hi⟩, h1⟩, h2⟩, h3⟩
    have hg := sm_get hd hy
    rw [hi] at hg
    rw [hg] at h1 h2 h3
    have := ck_rng hc hy
    rw [wrap_i64 (by omega) (by omega)] at h3
    exact ⟨y, hy, hi, h1, h2, by omega⟩
  · rintro ⟨y, hy, hi, h1, h2, h3⟩
    have hg := sm_get hd hy
    rw [hi] at hg
    rw [hg]
    have := ck_rng hc hy
    rw [wrap_i64 (by omega) (by omega)]
    exact ⟨⟨⟨⟨y, hy, hi⟩, h1⟩, h2⟩, by omega⟩
theorem shpR_iff {l : List Wk} {P : List Sty} {bs : List By} (hn : (ids l).Nodup) (hr : ∀ q ∈ l, 1 ≤ q.hr ∧ q.hr ≤ 1048576) (hc : checkE bs P = 0) {y : Sty} (hy : y ∈ P) :
    shpR l y = false ↔ ∃ q ∈ l, y.item = q.id ∧ y.len = q.len ∧ y.wid = q.wid ∧ y.b = y.a + q.hr := by
  unfold shpR
  simp only [Bool.or_eq_false_iff, decide_eq_false_iff_not, bne_eq_false_iff_eq]
  have hb := ck_rng hc hy
  constructor
  · rintro ⟨⟨⟨h0, h1⟩, h2⟩, h3⟩
    rw [findW_lt, Bool.not_eq_false, hasK_iff] at h0
    obtain ⟨q, hq, hqe⟩ := List.mem_map.1 h0
    have hj := (job_id hn hq).1
    rw [hqe] at hj
    rw [hj] at h1 h2 h3
    have := hr q hq
    rw [wrap_i64 (by omega) (by omega)] at h3
    exact ⟨q, hq, hqe.symm, h1, h2, h3⟩
  · rintro ⟨q, hq, hi, h1, h2, h3⟩
    have hj := job_id hn hq
    rw [hi, hj.1]
    have := hr q hq
    rw [wrap_i64 (by omega) (by omega)]
    exact ⟨⟨⟨hj.2, h1⟩, h2⟩, h3⟩
theorem unI_le (P : List Sty) (s : ByteArray) (n c : Int) : unI P s n ≤ c ↔ n ≤ c ∧ ∀ y ∈ P, y.item = s → y.b ≤ c := by
  unfold unI
  induction P generalizing n with
  | nil => simp
  | cons y P ih =>
    rw [List.foldl_cons, ih]
    cases h : (y.item.toList == s.toList)
    · have hne : y.item ≠ s := fun e => by rw [e] at h; simp at h
      rw [if_neg (by decide)]
      simp [hne]
    · have he : y.item = s := str_eq (by simpa using h)
      rw [if_pos rfl]
      have : imax n y.b ≤ c ↔ n ≤ c ∧ y.b ≤ c := by unfold imax; split <;> omega
      rw [this]
      simp only [List.mem_cons, forall_eq_or_imp, he, forall_const]
      exact and_assoc
theorem until_le (P : List Sty) (c : Int) : ∀ (af : List ByteArray) (n : Int), af.foldl (fun n s => unI P s n) n ≤ c ↔ n ≤ c ∧ ∀ s ∈ af, ∀ y ∈ P, y.item = s → y.b ≤ c
  | [], n => by simp
  | s :: af, n => by
    rw [List.foldl_cons, until_le P c af, unI_le]
    simp only [List.mem_cons, forall_eq_or_imp]
    exact and_assoc
theorem untilE_le (af : List ByteArray) (P : List Sty) (c : Int) : untilE af P ≤ c ↔ 0 ≤ c ∧ ∀ s ∈ af, ∀ y ∈ P, y.item = s → y.b ≤ c := until_le P c af 0
/-- The shape of a plan. -/
structure PShape (l : List Wk) (P : List Sty) : Prop where
  nd : (its P).Nodup
  sh : ∀ q ∈ l, ∃ y ∈ P, y.item = q.id ∧ y.len = q.len ∧ y.wid = q.wid ∧ y.b = y.a + q.hr
theorem shape_back {l : List Wk} {P : List Sty} (hn : (ids l).Nodup) (hlen : P.length = l.length) (h : PShape l P) : ∀ y ∈ P, ∃ q ∈ l, y.item = q.id ∧ y.len = q.len ∧ y.wid = q.wid ∧ y.b = y.a + q.hr := by
  intro y hy
  have h1 : y.item ∈ ids l := Classical.byContradiction fun hx => by
    have h2 : ∀ t ∈ y.item :: ids l, t ∈ its P := by
      intro t ht
      rcases List.mem_cons.1 ht with rfl | ht
      · exact its_mem.2 ⟨y, hy, rfl⟩
      · obtain ⟨q, hq, rfl⟩ := List.mem_map.1 ht
        obtain ⟨z, hz, e, _⟩ := h.sh q hq
        exact its_mem.2 ⟨z, hz, e⟩
    have := nodup_sub_len (List.nodup_cons.2 ⟨hx, hn⟩) h2
    rw [List.length_cons, its_len, ids_len] at this
    omega
  obtain ⟨q, hq, hqe⟩ := List.mem_map.1 h1
  obtain ⟨z, hz, e, r⟩ := h.sh q hq
  have hzy : z = y := by
    obtain ⟨i, hi, hie⟩ := List.getElem_of_mem hz
    obtain ⟨j, hj, hje⟩ := List.getElem_of_mem hy
    have := its_inj h.nd hi hj (by rw [getD_at hi, getD_at hj, hie, hje, e, hqe])
    subst this
    rw [← hie, ← hje]
  subst hzy
  exact ⟨q, hq, e, r⟩
theorem dup_iff (P : List Sty) : (∀ i, i < P.length → ((List.range i).any fun j => sameI (P.getD i zeroSty) (P.getD j zeroSty)) = false) ↔ (its P).Nodup := by
  have hs : ∀ x y : Sty, sameI x y = false ↔ y.item ≠ x.item := fun x y => by
    unfold sameI
    rw [beq_eq_false_iff_ne]
    exact ⟨fun h e => h (by rw [e]), fun h e => h (str_eq e)⟩
  rw [List.Nodup, List.pairwise_iff_getElem]
  constructor
  · intro h i j hi hj hij e
    rw [its_len] at hi hj
    have := h j hj
    rw [List.any_eq_false] at this
    have := this i (List.mem_range.2 hij)
    rw [Bool.not_eq_true, hs, getD_at hi, getD_at hj] at this
    exact this (by simpa [its] using e)
  · intro h i hi
    rw [List.any_eq_false]
    intro j hj
    have hj := List.mem_range.1 hj
    rw [Bool.not_eq_true, hs, getD_at hi, getD_at (show j < P.length by omega)]
    have := h j i (by rw [its_len]; omega) (by rw [its_len]; omega) hj
    simpa [its] using this
theorem pshape_iff {l : List Wk} {P : List Sty} {bs : List By} (hE : (ordE l).2 = 0) (hc : checkE bs P = 0) (hlen : P.length = l.length) :
    (¬ ((P.length : Int) != (l.length : Int) || ((smG P).K.length : Int) != (l.length : Int)) = true ∧ ¬ (ordE l).1.any (badS (smG P)) = true) ↔ PShape l P := by
  obtain ⟨hj, ho, hn, hl⟩ := ord_all hE
  have hr : ∀ q ∈ l, 1 ≤ q.hr ∧ q.hr ≤ 1048576 := fun q hq => by have := jobs_rng hj q hq; omega
  rw [Bool.not_eq_true, Bool.not_eq_true, Bool.or_eq_false_iff, bne_eq_false_iff_eq, bne_eq_false_iff_eq, List.any_eq_false]
  constructor
  · rintro ⟨⟨h1, h2⟩, h3⟩
    have hd : (its P).Nodup := (sm_nd P).1 (by omega)
    refine ⟨hd, fun q hq => (badS_iff hn hr hc hd hq).1 ?_⟩
    have := h3 q ((ord_mem hE q).2 hq)
    simpa using this
  · rintro ⟨hd, hsh⟩
    have := (sm_nd P).2 hd
    refine ⟨⟨by omega, by omega⟩, fun q hq => ?_⟩
    rw [Bool.not_eq_true]
    have hq := ho.mem q hq
    exact (badS_iff hn hr hc hd hq).2 (hsh q hq)
theorem rshape_iff {l : List Wk} {P : List Sty} {bs : List By} (hE : (ordE l).2 = 0) (hc : checkE bs P = 0) (hlen : P.length = l.length) :
    ¬ (List.range P.length).any (badP l P) = true ↔ PShape l P := by
  obtain ⟨hj, ho, hn, hl⟩ := ord_all hE
  have hr : ∀ q ∈ l, 1 ≤ q.hr ∧ q.hr ≤ 1048576 := fun q hq => by have := jobs_rng hj q hq; omega
  rw [Bool.not_eq_true, List.any_eq_false]
  constructor
  · intro h
    have h1 : ∀ i, i < P.length → shpR l (P.getD i zeroSty) = false ∧ ((List.range i).any fun j => sameI (P.getD i zeroSty) (P.getD j zeroSty)) = false := fun i hi => by
      have := h i (List.mem_range.2 hi)
      rw [Bool.not_eq_true] at this
      unfold badP at this
      rwa [Bool.or_eq_false_iff] at this
    have hd : (its P).Nodup := (dup_iff P).1 fun i hi => (h1 i hi).2
    have hb : ∀ y ∈ P, ∃ q ∈ l, y.item = q.id ∧ y.len = q.len ∧ y.wid = q.wid ∧ y.b = y.a + q.hr := by
      intro y hy
      refine (shpR_iff hn hr hc hy).1 ?_
      obtain ⟨i, hi, rfl⟩ := List.getElem_of_mem hy
      have := (h1 i hi).1
      rwa [getD_at hi] at this
    refine ⟨hd, fun q hq => ?_⟩
    have hqi : q.id ∈ its P := Classical.byContradiction fun hx => by
      have h2 : ∀ t ∈ q.id :: its P, t ∈ ids l := by
        intro t ht
        rcases List.mem_cons.1 ht with rfl | ht
        · exact List.mem_map.2 ⟨q, hq, rfl⟩
        · obtain ⟨y, hy, rfl⟩ := its_mem.1 ht
          obtain ⟨q2, hq2, e, _⟩ := hb y hy
          rw [e]; exact List.mem_map.2 ⟨q2, hq2, rfl⟩
      have := nodup_sub_len (List.nodup_cons.2 ⟨hx, hd⟩) h2
      rw [List.length_cons, its_len, ids_len] at this
      omega
    obtain ⟨y, hy, hye⟩ := its_mem.1 hqi
    obtain ⟨q2, hq2, e, r⟩ := hb y hy
    have : q2 = q := by
      have h3 := (job_id hn hq2).1
      rw [← e, hye, (job_id hn hq).1] at h3
      exact h3.symm
    subst this
    exact ⟨y, hy, hye, r⟩
  · rintro h i hi
    have hi := List.mem_range.1 hi
    rw [Bool.not_eq_true]
    unfold badP
    rw [Bool.or_eq_false_iff]
    refine ⟨?_, (dup_iff P).2 h.nd i hi⟩
    have hm : P.getD i zeroSty ∈ P := getD_mem _ hi
    exact (shpR_iff hn hr hc hm).2 (shape_back hn hlen h _ hm)
def OrdP (l : List Wk) (P : List Sty) : Prop := ∀ q ∈ l, ∀ y ∈ P, y.item = q.id → ∀ s ∈ q.af, ∀ z ∈ P, z.item = s → z.b ≤ y.a
theorem plate_iff {l : List Wk} {P : List Sty} {bs : List By} (hE : (ordE l).2 = 0) (hc : checkE bs P = 0) (hlen : P.length = l.length) (h : PShape l P) :
    ¬ (ordE l).1.any (anyLate (smG P)) = true ↔ OrdP l P := by
  obtain ⟨hj, ho, hn, hl⟩ := ord_all hE
  rw [Bool.not_eq_true, List.any_eq_false]
  constructor
  · intro h1 q hq y hy hyq s hs z hz hzs
    have := h1 q ((ord_mem hE q).2 hq)
    rw [Bool.not_eq_true] at this
    unfold anyLate at this
    rw [List.any_eq_false] at this
    have := this s hs
    unfold lateS at this
    have e1 := sm_get h.nd hy
    have e2 := sm_get h.nd hz
    rw [hyq] at e1
    rw [hzs] at e2
    rw [e1, e2] at this
    simp only [decide_eq_true_eq] at this
    omega
  · intro h1 q hq
    have hq := ho.mem q hq
    rw [Bool.not_eq_true]
    unfold anyLate
    rw [List.any_eq_false]
    intro s hs
    obtain ⟨y, hy, hyq, _⟩ := h.sh q hq
    have hsl : s ∈ ids l := hasK_iff.1 (List.all_eq_true.1 ((jobsE_inv hj).2.2 q hq) s hs)
    obtain ⟨q2, hq2, rfl⟩ := List.mem_map.1 hsl
    obtain ⟨z, hz, hzs, _⟩ := h.sh q2 hq2
    have := h1 q hq y hy hyq _ hs z hz hzs
    unfold lateS
    have e1 := sm_get h.nd hy
    have e2 := sm_get h.nd hz
    rw [hyq] at e1
    rw [hzs] at e2
    rw [e1, e2]
    simp only [decide_eq_true_eq]
    omega
theorem rlate_iff {l : List Wk} {P : List Sty} {bs : List By} (hE : (ordE l).2 = 0) (hc : checkE bs P = 0) (hlen : P.length = l.length) (h : PShape l P) :
    ¬ P.any (lateR l P) = true ↔ OrdP l P := by
  obtain ⟨hj, ho, hn, hl⟩ := ord_all hE
  rw [Bool.not_eq_true, List.any_eq_false]
  have hl : ∀ y ∈ P, ∀ q ∈ l, y.item = q.id → (¬ lateR l P y = true ↔ ∀ s ∈ q.af, ∀ z ∈ P, z.item = s → z.b ≤ y.a) := by
    intro y hy q hq e
    unfold lateR
    rw [e, (job_id hn hq).1, decide_eq_true_eq, Int.not_lt, untilE_le]
    have := ck_rng hc hy
    exact ⟨fun h => h.2, fun h => ⟨by omega, h⟩⟩
  constructor
  · intro h1 q hq y hy hyq
    exact (hl y hy q hq hyq).1 (h1 y hy)
  · intro h1 y hy
    obtain ⟨q, hq, e, _⟩ := shape_back hn hlen h y hy
    exact (hl y hy q hq e).2 (h1 q hq y hy e)
/-- The program's Check and the specification's agree. -/
theorem chk_same (l : List Wk) (bs : List By) (P : List Sty) : pchkE l bs P = rchkE l bs P := by
  unfold pchkE rchkE
  by_cases hE : (ordE l).2 = 0
  · rw [if_neg (show ¬ (ordE l).2 ≠ 0 by simp [hE]), if_neg (show ¬ (ordE l).2 ≠ 0 by simp [hE])]
    by_cases hc : checkE bs P = 0
    · rw [if_neg (show ¬ checkE bs P ≠ 0 by simp [hc]), if_neg (show ¬ checkE bs P ≠ 0 by simp [hc])]
      unfold pchkF rchkF
      by_cases hlen : P.length = l.length
      · have hs1 := pshape_iff hE hc hlen
        have hs2 := rshape_iff hE hc hlen
        have hb : ((P.length : Int) != (l.length : Int)) = false := by rw [hlen]; simp
        rw [hb, if_neg (show ¬ false = true by decide)] 
        rw [hb] at hs1
        by_cases hsh : PShape l P
        · obtain ⟨a1, a2⟩ := hs1.2 hsh
          rw [if_neg a1, if_neg a2, if_neg (hs2.2 hsh)]
          have hp := plate_iff hE hc hlen hsh
          have hq := rlate_iff hE hc hlen hsh
          by_cases ho : OrdP l P
          · rw [if_neg (hp.2 ho), if_neg (hq.2 ho)]
          · rw [if_pos (Classical.byContradiction fun hx => ho (hp.1 hx)), if_pos (Classical.byContradiction fun hx => ho (hq.1 hx))]
        · rw [if_pos (Classical.byContradiction fun hx => hsh (hs2.1 hx))]
          by_cases a1 : (false || ((smG P).K.length : Int) != (l.length : Int)) = true
          · rw [if_pos a1]
          · rw [if_neg a1, if_pos (Classical.byContradiction fun hx => hsh (hs1.1 ⟨a1, hx⟩))]
      · have hb : ((P.length : Int) != (l.length : Int)) = true := by rw [bne_iff_ne]; omega
        rw [hb, if_pos rfl, Bool.true_or, if_pos rfl]
    · rw [if_pos hc, if_pos hc]
  · rw [if_pos hE, if_pos hE]
def rplanG (bs : List By) : List Wk → List Sty → List Sty × Int
  | [], out => (out, 0)
  | q :: S, out => if (fitE bs out (wantS q (untilE q.af out)) q.hr).2 ≠ 0 then ([], (fitE bs out (wantS q (untilE q.af out)) q.hr).2) else rplanG bs S (out ++ [(fitE bs out (wantS q (untilE q.af out)) q.hr).1])
end Go.Proofs
namespace Go.Proofs
open Go Go.Ab
set_option maxHeartbeats 8000000
set_option maxRecDepth 100000
attribute [local irreducible] Awp aops aopsL Go.Ab.Pure PureOwn PureTwoM
theorem pureV_nilc {st : Nat → Prop} {w : World} {es es' : List (List AV)} {c : Value} (hl : es'.length = es.length) (hz : ∀ i : Nat, i < es.length → (es.getD i []).length = (es'.getD i []).length)
    (hc : ∀ i j : Nat, i < es.length → j < (es.getD i []).length → av (es.getD i []) j = av (es'.getD i []) j ∨ (av (es'.getD i []) j = .nils ∧ av (es.getD i []) j = .sl [])) (h : PureV st w (.sl es') c) : PureV st w (.sl es) c := by
  cases h with
  | slE a cap hcap =>
    have : es = [] := List.eq_nil_of_length_eq_zero (by simpa using hl.symm)
    subst this
    exact .slE a cap hcap
  | slC _ g off cap sz f h1 h2 h3 h4 h5 h6 h7 h8 =>
    have hes : ∀ x ∈ es, x.length = sz := fun x hx => by
      obtain ⟨i, hi, rfl⟩ := List.getElem_of_mem hx
      have e1 := hz i hi
      have e2 : es.getD i [] = es[i] := by simp [List.getD_eq_getElem?_getD, hi]
      have e3 : es'.getD i [] = es'[i]'(by omega) := by simp [List.getD_eq_getElem?_getD, show i < es'.length by omega]
      rw [e2, e3] at e1
      rw [e1]
      exact h5 _ (List.getElem_mem _)
    rw [hl]
    refine .slC es g off cap sz f (by rw [← hl]; exact h1) h2 h3 (fun e => h4 (List.eq_nil_of_length_eq_zero (by rw [hl, e]; rfl))) hes h6 (fun i j hi hj => h7 i j (by rw [hl]; exact hi) hj) fun i j hi hj => ?_
    have hjl : j < (es.getD i []).length := by
      have e2 : es.getD i [] = es[i] := by simp [List.getD_eq_getElem?_getD, hi]
      rw [e2, hes _ (List.getElem_mem _)]
      exact hj
    have h9 := h8 i j (by rw [hl]; exact hi) hj
    rcases hc i j hi hjl with k | ⟨k1, k2⟩
    · rw [k]; exact h9
    · rw [k1] at h9
      rw [k2]
      generalize f i j = u at h9 ⊢
      cases h9 with
      | nils a => exact .slE a 0 (Nat.zero_le _)
theorem pure_nilc {P : Program} {f : Nat} {es es' : List (List AV)} {r : List AV} {res : AV} (h : Go.Ab.Pure P f (.sl es :: r) res) (hl : es'.length = es.length) (hz : ∀ i : Nat, i < es.length → (es.getD i []).length = (es'.getD i []).length)
    (hc : ∀ i j : Nat, i < es.length → j < (es.getD i []).length → av (es.getD i []) j = av (es'.getD i []) j ∨ (av (es'.getD i []) j = .nils ∧ av (es.getD i []) j = .sl [])) : Go.Ab.Pure P f (.sl es' :: r) res := by
  unfold Go.Ab.Pure at h ⊢
  refine ⟨h.1, fun ok w cs hv => h.2 ok w cs ⟨hv.1, fun j hj => ?_⟩⟩
  have := hv.2 j hj
  match j, hj with
  | 0, _ => exact pureV_nilc hl hz hc this
  | j + 1, _ => exact this
def eBays : List By := [⟨⟨⟨[72]⟩⟩, 20, 10⟩]
def eJobs : List Wk := [⟨⟨⟨[98]⟩⟩, 3, 10, 10, []⟩, ⟨⟨⟨[97]⟩⟩, 5, 12, 10, [⟨⟨[98]⟩⟩]⟩, ⟨⟨⟨[99]⟩⟩, 2, 10, 10, []⟩]
def ePlan : List Sty := [⟨⟨⟨[98]⟩⟩, ⟨⟨[72]⟩⟩, 0, 0, 10, 10, 0, 3⟩, ⟨⟨⟨[97]⟩⟩, ⟨⟨[72]⟩⟩, 0, 0, 12, 10, 3, 8⟩, ⟨⟨⟨[99]⟩⟩, ⟨⟨[72]⟩⟩, 10, 0, 10, 10, 0, 2⟩]
theorem eOrd : ordE eJobs = (eJobs, 0) := by kernel_rfl
theorem eCrit : critE eJobs = 8 := by kernel_rfl
theorem eSpan : spanE ePlan = 8 := by kernel_rfl
theorem eChk1 : pchkE eJobs eBays ePlan = 0 := by kernel_rfl
theorem eChk2 : pchkE eJobs eBays (ePlan.take 2) = 17 := by kernel_rfl
theorem planG_cons {bs : List By} {q : Wk} {S : List Wk} {p : Pn} {x : Sty} (h : fitE bs p.out (wantS q (frstM p.K p.V q.af)) q.hr = (x, 0)) : planG bs (q :: S) p = planG bs S ⟨pK p.K q.id, pV p.K p.V q.id x.b, p.out ++ [x]⟩ := by
  have e : planG bs (q :: S) p = if (fitE bs p.out (wantS q (frstM p.K p.V q.af)) q.hr).2 ≠ 0 then ([], 18)
    else planG bs S ⟨pK p.K q.id, pV p.K p.V q.id (fitE bs p.out (wantS q (frstM p.K p.V q.af)) q.hr).1.b, p.out ++ [(fitE bs p.out (wantS q (frstM p.K p.V q.af)) q.hr).1]⟩ := rfl
  rw [e, h, if_neg (by simp)]
def eS (i : Nat) : Sty := ePlan.getD i zeroSty
def eJ (i : Nat) : Wk := eJobs.getD i zeroWk
def eP0 : Pn := ⟨[], [], []⟩
def ePn (p : Pn) (q : Wk) (x : Sty) : Pn := ⟨pK p.K q.id, pV p.K p.V q.id x.b, p.out ++ [x]⟩
def eP1 : Pn := ePn eP0 (eJ 0) (eS 0)
def eP2 : Pn := ePn eP1 (eJ 1) (eS 1)
theorem eF0 : fitE eBays eP0.out (wantS (eJ 0) (frstM eP0.K eP0.V (eJ 0).af)) (eJ 0).hr = (eS 0, 0) := fitE_some (by kernel_rfl) (by kernel_rfl) (by kernel_rfl) (by kernel_rfl) (by kernel_rfl)
theorem eF1 : fitE eBays eP1.out (wantS (eJ 1) (frstM eP1.K eP1.V (eJ 1).af)) (eJ 1).hr = (eS 1, 0) := fitE_some (by kernel_rfl) (by kernel_rfl) (by kernel_rfl) (by kernel_rfl) (by kernel_rfl)
theorem eF2 : fitE eBays eP2.out (wantS (eJ 2) (frstM eP2.K eP2.V (eJ 2).af)) (eJ 2).hr = (eS 2, 0) := fitE_some (by kernel_rfl) (by kernel_rfl) (by kernel_rfl) (by kernel_rfl) (by kernel_rfl)
theorem ePl : planE eJobs eBays = (ePlan, 0) := by
  unfold planE
  rw [eOrd, if_neg (by simp), if_neg (fun hne => hne (show checkE eBays [] = 0 by kernel_rfl))]
  show planG eBays [eJ 0, eJ 1, eJ 2] eP0 = _
  rw [planG_cons eF0]
  show planG eBays [eJ 1, eJ 2] eP1 = _
  rw [planG_cons eF1]
  show planG eBays [eJ 2] eP2 = _
  rw [planG_cons eF2]
  rfl
theorem alive_ok : Pure Tryz.prog 10 [] (.v (.bool true)) := by
  have ha : ∀ q ∈ eJobs, q.af.length < 1000000 := by
    intro q hq
    simp only [eJobs, List.mem_cons, List.not_mem_nil, or_false] at hq
    rcases hq with rfl | rfl | rfl <;> decide
  have a1 : Pure Tryz.prog 11 [.sl [[.v (.string ⟨⟨[98]⟩⟩), .v (.int .i64 3), .v (.int .i64 10), .v (.int .i64 10), .nils], [.v (.string ⟨⟨[97]⟩⟩), .v (.int .i64 5), .v (.int .i64 12), .v (.int .i64 10), .sl [[.v (.string ⟨⟨[98]⟩⟩)]]], [.v (.string ⟨⟨[99]⟩⟩), .v (.int .i64 2), .v (.int .i64 10), .v (.int .i64 10), .nils]]] (.tup [.sl [[.v (.string ⟨⟨[98]⟩⟩)], [.v (.string ⟨⟨[97]⟩⟩)], [.v (.string ⟨⟨[99]⟩⟩)]], .v (.int .i64 0)]) := by
    have h := order_ok eJobs (by decide) ha
    rw [eOrd] at h
    exact pure_nilc h rfl (fun i hi => by match i, hi with
      | 0, _ => rfl
      | 1, _ => rfl
      | 2, _ => rfl) (fun i j hi hj => by match i, hi, j, hj with
      | 0, _, 0, _ => exact .inl rfl
      | 0, _, 1, _ => exact .inl rfl
      | 0, _, 2, _ => exact .inl rfl
      | 0, _, 3, _ => exact .inl rfl
      | 0, _, 4, _ => exact .inr ⟨rfl, rfl⟩
      | 1, _, 0, _ => exact .inl rfl
      | 1, _, 1, _ => exact .inl rfl
      | 1, _, 2, _ => exact .inl rfl
      | 1, _, 3, _ => exact .inl rfl
      | 1, _, 4, _ => exact .inl rfl
      | 2, _, 0, _ => exact .inl rfl
      | 2, _, 1, _ => exact .inl rfl
      | 2, _, 2, _ => exact .inl rfl
      | 2, _, 3, _ => exact .inl rfl
      | 2, _, 4, _ => exact .inr ⟨rfl, rfl⟩)
  have a2 : Pure Tryz.prog 17 [.sl [[.v (.string ⟨⟨[98]⟩⟩), .v (.int .i64 3), .v (.int .i64 10), .v (.int .i64 10), .nils], [.v (.string ⟨⟨[97]⟩⟩), .v (.int .i64 5), .v (.int .i64 12), .v (.int .i64 10), .sl [[.v (.string ⟨⟨[98]⟩⟩)]]], [.v (.string ⟨⟨[99]⟩⟩), .v (.int .i64 2), .v (.int .i64 10), .v (.int .i64 10), .nils]], .sl [[.v (.string ⟨⟨[72]⟩⟩), .v (.int .i64 20), .v (.int .i64 10)]]] (.tup [.sl [[.v (.string ⟨⟨[98]⟩⟩), .v (.string ⟨⟨[72]⟩⟩), .v (.int .i64 0), .v (.int .i64 0), .v (.int .i64 10), .v (.int .i64 10), .v (.int .i64 0), .v (.int .i64 3)], [.v (.string ⟨⟨[97]⟩⟩), .v (.string ⟨⟨[72]⟩⟩), .v (.int .i64 0), .v (.int .i64 0), .v (.int .i64 12), .v (.int .i64 10), .v (.int .i64 3), .v (.int .i64 8)], [.v (.string ⟨⟨[99]⟩⟩), .v (.string ⟨⟨[72]⟩⟩), .v (.int .i64 10), .v (.int .i64 0), .v (.int .i64 10), .v (.int .i64 10), .v (.int .i64 0), .v (.int .i64 2)]], .v (.int .i64 0)]) := by
    have h := plan_ok eJobs eBays (by decide) (by decide) ha
    rw [ePl] at h
    exact pure_nilc h rfl (fun i hi => by match i, hi with
      | 0, _ => rfl
      | 1, _ => rfl
      | 2, _ => rfl) (fun i j hi hj => by match i, hi, j, hj with
      | 0, _, 0, _ => exact .inl rfl
      | 0, _, 1, _ => exact .inl rfl
      | 0, _, 2, _ => exact .inl rfl
      | 0, _, 3, _ => exact .inl rfl
      | 0, _, 4, _ => exact .inr ⟨rfl, rfl⟩
      | 1, _, 0, _ => exact .inl rfl
      | 1, _, 1, _ => exact .inl rfl
      | 1, _, 2, _ => exact .inl rfl
      | 1, _, 3, _ => exact .inl rfl
      | 1, _, 4, _ => exact .inl rfl
      | 2, _, 0, _ => exact .inl rfl
      | 2, _, 1, _ => exact .inl rfl
      | 2, _, 2, _ => exact .inl rfl
      | 2, _, 3, _ => exact .inl rfl
      | 2, _, 4, _ => exact .inr ⟨rfl, rfl⟩)
  have a3 : Pure Tryz.prog 13 [.sl [[.v (.string ⟨⟨[98]⟩⟩), .v (.int .i64 3), .v (.int .i64 10), .v (.int .i64 10), .nils], [.v (.string ⟨⟨[97]⟩⟩), .v (.int .i64 5), .v (.int .i64 12), .v (.int .i64 10), .sl [[.v (.string ⟨⟨[98]⟩⟩)]]], [.v (.string ⟨⟨[99]⟩⟩), .v (.int .i64 2), .v (.int .i64 10), .v (.int .i64 10), .nils]]] (.tup [.v (.int .i64 8), .v (.int .i64 0)]) := by
    have h := critical_ok eJobs (by decide) ha
    rw [eOrd, eCrit] at h
    exact pure_nilc h rfl (fun i hi => by match i, hi with
      | 0, _ => rfl
      | 1, _ => rfl
      | 2, _ => rfl) (fun i j hi hj => by match i, hi, j, hj with
      | 0, _, 0, _ => exact .inl rfl
      | 0, _, 1, _ => exact .inl rfl
      | 0, _, 2, _ => exact .inl rfl
      | 0, _, 3, _ => exact .inl rfl
      | 0, _, 4, _ => exact .inr ⟨rfl, rfl⟩
      | 1, _, 0, _ => exact .inl rfl
      | 1, _, 1, _ => exact .inl rfl
      | 1, _, 2, _ => exact .inl rfl
      | 1, _, 3, _ => exact .inl rfl
      | 1, _, 4, _ => exact .inl rfl
      | 2, _, 0, _ => exact .inl rfl
      | 2, _, 1, _ => exact .inl rfl
      | 2, _, 2, _ => exact .inl rfl
      | 2, _, 3, _ => exact .inl rfl
      | 2, _, 4, _ => exact .inr ⟨rfl, rfl⟩)
  have a4 : Pure Tryz.prog 20 [.sl [[.v (.string ⟨⟨[98]⟩⟩), .v (.int .i64 3), .v (.int .i64 10), .v (.int .i64 10), .nils], [.v (.string ⟨⟨[97]⟩⟩), .v (.int .i64 5), .v (.int .i64 12), .v (.int .i64 10), .sl [[.v (.string ⟨⟨[98]⟩⟩)]]], [.v (.string ⟨⟨[99]⟩⟩), .v (.int .i64 2), .v (.int .i64 10), .v (.int .i64 10), .nils]], .sl [[.v (.string ⟨⟨[72]⟩⟩), .v (.int .i64 20), .v (.int .i64 10)]], .sl [[.v (.string ⟨⟨[98]⟩⟩), .v (.string ⟨⟨[72]⟩⟩), .v (.int .i64 0), .v (.int .i64 0), .v (.int .i64 10), .v (.int .i64 10), .v (.int .i64 0), .v (.int .i64 3)], [.v (.string ⟨⟨[97]⟩⟩), .v (.string ⟨⟨[72]⟩⟩), .v (.int .i64 0), .v (.int .i64 0), .v (.int .i64 12), .v (.int .i64 10), .v (.int .i64 3), .v (.int .i64 8)], [.v (.string ⟨⟨[99]⟩⟩), .v (.string ⟨⟨[72]⟩⟩), .v (.int .i64 10), .v (.int .i64 0), .v (.int .i64 10), .v (.int .i64 10), .v (.int .i64 0), .v (.int .i64 2)]]] (.v (.int .i64 0)) := by
    have h := pchk_ok eJobs eBays ePlan (by decide) (by decide) (by decide) ha
    rw [eChk1] at h
    exact pure_nilc h rfl (fun i hi => by match i, hi with
      | 0, _ => rfl
      | 1, _ => rfl
      | 2, _ => rfl) (fun i j hi hj => by match i, hi, j, hj with
      | 0, _, 0, _ => exact .inl rfl
      | 0, _, 1, _ => exact .inl rfl
      | 0, _, 2, _ => exact .inl rfl
      | 0, _, 3, _ => exact .inl rfl
      | 0, _, 4, _ => exact .inr ⟨rfl, rfl⟩
      | 1, _, 0, _ => exact .inl rfl
      | 1, _, 1, _ => exact .inl rfl
      | 1, _, 2, _ => exact .inl rfl
      | 1, _, 3, _ => exact .inl rfl
      | 1, _, 4, _ => exact .inl rfl
      | 2, _, 0, _ => exact .inl rfl
      | 2, _, 1, _ => exact .inl rfl
      | 2, _, 2, _ => exact .inl rfl
      | 2, _, 3, _ => exact .inl rfl
      | 2, _, 4, _ => exact .inr ⟨rfl, rfl⟩)
  have a5 : Pure Tryz.prog 20 [.sl [[.v (.string ⟨⟨[98]⟩⟩), .v (.int .i64 3), .v (.int .i64 10), .v (.int .i64 10), .nils], [.v (.string ⟨⟨[97]⟩⟩), .v (.int .i64 5), .v (.int .i64 12), .v (.int .i64 10), .sl [[.v (.string ⟨⟨[98]⟩⟩)]]], [.v (.string ⟨⟨[99]⟩⟩), .v (.int .i64 2), .v (.int .i64 10), .v (.int .i64 10), .nils]], .sl [[.v (.string ⟨⟨[72]⟩⟩), .v (.int .i64 20), .v (.int .i64 10)]], .sl [[.v (.string ⟨⟨[98]⟩⟩), .v (.string ⟨⟨[72]⟩⟩), .v (.int .i64 0), .v (.int .i64 0), .v (.int .i64 10), .v (.int .i64 10), .v (.int .i64 0), .v (.int .i64 3)], [.v (.string ⟨⟨[97]⟩⟩), .v (.string ⟨⟨[72]⟩⟩), .v (.int .i64 0), .v (.int .i64 0), .v (.int .i64 12), .v (.int .i64 10), .v (.int .i64 3), .v (.int .i64 8)]]] (.v (.int .i64 17)) := by
    have h := pchk_ok eJobs eBays (ePlan.take 2) (by decide) (by decide) (by decide) ha
    rw [eChk2] at h
    exact pure_nilc h rfl (fun i hi => by match i, hi with
      | 0, _ => rfl
      | 1, _ => rfl
      | 2, _ => rfl) (fun i j hi hj => by match i, hi, j, hj with
      | 0, _, 0, _ => exact .inl rfl
      | 0, _, 1, _ => exact .inl rfl
      | 0, _, 2, _ => exact .inl rfl
      | 0, _, 3, _ => exact .inl rfl
      | 0, _, 4, _ => exact .inr ⟨rfl, rfl⟩
      | 1, _, 0, _ => exact .inl rfl
      | 1, _, 1, _ => exact .inl rfl
      | 1, _, 2, _ => exact .inl rfl
      | 1, _, 3, _ => exact .inl rfl
      | 1, _, 4, _ => exact .inl rfl
      | 2, _, 0, _ => exact .inl rfl
      | 2, _, 1, _ => exact .inl rfl
      | 2, _, 2, _ => exact .inl rfl
      | 2, _, 3, _ => exact .inl rfl
      | 2, _, 4, _ => exact .inr ⟨rfl, rfl⟩)
  have a6 : Pure Tryz.prog 15 [.sl [[.v (.string ⟨⟨[98]⟩⟩)], [.v (.string ⟨⟨[97]⟩⟩)], [.v (.string ⟨⟨[99]⟩⟩)]], .sl [[.v (.string ⟨⟨[98]⟩⟩)], [.v (.string ⟨⟨[97]⟩⟩)], [.v (.string ⟨⟨[99]⟩⟩)]]] (.v (.bool true)) := same04_ok (ids eJobs) (by decide)
  have a7 : Pure Tryz.prog 19 [.sl [[.v (.string ⟨⟨[98]⟩⟩), .v (.string ⟨⟨[72]⟩⟩), .v (.int .i64 0), .v (.int .i64 0), .v (.int .i64 10), .v (.int .i64 10), .v (.int .i64 0), .v (.int .i64 3)], [.v (.string ⟨⟨[97]⟩⟩), .v (.string ⟨⟨[72]⟩⟩), .v (.int .i64 0), .v (.int .i64 0), .v (.int .i64 12), .v (.int .i64 10), .v (.int .i64 3), .v (.int .i64 8)], [.v (.string ⟨⟨[99]⟩⟩), .v (.string ⟨⟨[72]⟩⟩), .v (.int .i64 10), .v (.int .i64 0), .v (.int .i64 10), .v (.int .i64 10), .v (.int .i64 0), .v (.int .i64 2)]], .sl [[.v (.string ⟨⟨[98]⟩⟩), .v (.string ⟨⟨[72]⟩⟩), .v (.int .i64 0), .v (.int .i64 0), .v (.int .i64 10), .v (.int .i64 10), .v (.int .i64 0), .v (.int .i64 3)], [.v (.string ⟨⟨[97]⟩⟩), .v (.string ⟨⟨[72]⟩⟩), .v (.int .i64 0), .v (.int .i64 0), .v (.int .i64 12), .v (.int .i64 10), .v (.int .i64 3), .v (.int .i64 8)], [.v (.string ⟨⟨[99]⟩⟩), .v (.string ⟨⟨[72]⟩⟩), .v (.int .i64 10), .v (.int .i64 0), .v (.int .i64 10), .v (.int .i64 10), .v (.int .i64 0), .v (.int .i64 2)]]] (.v (.bool true)) := same42_ok ePlan (by decide)
  have a8 : Pure Tryz.prog 22 [.sl [[.v (.string ⟨⟨[98]⟩⟩), .v (.string ⟨⟨[72]⟩⟩), .v (.int .i64 0), .v (.int .i64 0), .v (.int .i64 10), .v (.int .i64 10), .v (.int .i64 0), .v (.int .i64 3)], [.v (.string ⟨⟨[97]⟩⟩), .v (.string ⟨⟨[72]⟩⟩), .v (.int .i64 0), .v (.int .i64 0), .v (.int .i64 12), .v (.int .i64 10), .v (.int .i64 3), .v (.int .i64 8)], [.v (.string ⟨⟨[99]⟩⟩), .v (.string ⟨⟨[72]⟩⟩), .v (.int .i64 10), .v (.int .i64 0), .v (.int .i64 10), .v (.int .i64 10), .v (.int .i64 0), .v (.int .i64 2)]]] (.v (.int .i64 8)) := by
    have h := span_ok ePlan (by decide)
    rw [eSpan] at h
    exact h
  refine fn_pure Tryz.F10 (Nat.le_of_ble_eq_true rfl) ?_; unfold Tryz.ac10 AR AM AO
  repeat' (first
 | (apply Awp.sreg; (case hn => (simp only [List.length_cons, List.length_nil, Nat.reduceAdd] <;> rfl)))
 | (refine st_nil ?_)
 | (apply st_full (d := some 11); (case hr => (simp only [go_sem, *] <;> rfl)); (case hn => (simp; done)); (case hp => (first | (simp; done))))
 | (apply st_full (d := some 13); (case hr => (simp only [go_sem, *] <;> rfl)); (case hn => (simp; done)); (case hp => (first | (simp; done))))
 | (apply st_full (d := some 16); (case hr => (simp only [go_sem, *] <;> rfl)); (case hn => (simp; done)); (case hp => (first | (simp; done))))
 | (apply st_full (d := some 42); (case hr => (simp only [go_sem, *] <;> rfl)); (case hn => (simp; done)); (case hp => (first | (simp; done))))
 | (apply st_a; (case hc => rfl); (case he => (simp only [go_sem, *] <;> rfl)); (case hu => (simp only [updL_nil, updL_cons] <;> rfl)); (case hp => first | trivial | (simp; done)))
 | (apply st_m; (case hc => rfl); (case hg => (simp only [go_sem, *] <;> rfl)); (case he => (intro hQz; (try simp only [wantB_t, wantB_f, Bool.and_eq_true, Bool.not_eq_true', Bool.not_true, Bool.not_false, and_true, true_and] at hQz); simp only [go_sem, *] <;> rfl)); (case hp => (intro hQz; (try simp only [wantB_t, wantB_f, Bool.and_eq_true, Bool.not_eq_true', Bool.or_eq_false_iff, decide_eq_true_eq, decide_eq_false_iff_not, beq_iff_eq, beq_eq_false_iff_ne, bne_iff_ne, bne_eq_false_iff_eq, Int.not_lt, Int.not_le, Int.ofNat_lt, Int.ofNat_le] at hQz); first | trivial)))
 | (apply st_c; (case hc => (simp only [go_sem, *] <;> rfl)); (case hl => (simp only [go_sem, *] <;> rfl)); (case hn => (simp only [go_sem, *] <;> rfl)); (case hp => first | exact a1 | (have hXz := a1; simp only [go_sem, *] at hXz; exact hXz)))
 | (apply st_c; (case hc => (simp only [go_sem, *] <;> rfl)); (case hl => (simp only [go_sem, *] <;> rfl)); (case hn => (simp only [go_sem, *] <;> rfl)); (case hp => first | exact a2 | (have hXz := a2; simp only [go_sem, *] at hXz; exact hXz)))
 | (apply st_c; (case hc => (simp only [go_sem, *] <;> rfl)); (case hl => (simp only [go_sem, *] <;> rfl)); (case hn => (simp only [go_sem, *] <;> rfl)); (case hp => first | exact a3 | (have hXz := a3; simp only [go_sem, *] at hXz; exact hXz)))
 | (apply st_mc; (case hop => rfl); (case hg => (simp only [go_sem, *] <;> rfl)); (case hc => (intro hQz; (try simp only [wantB_t, wantB_f, Bool.and_eq_true, Bool.not_eq_true', Bool.not_true, Bool.not_false, and_true, true_and] at hQz); simp only [go_sem, *] <;> rfl)); (case hl => (intro hQz; (try simp only [wantB_t, wantB_f, Bool.and_eq_true, Bool.not_eq_true', Bool.not_true, Bool.not_false, and_true, true_and] at hQz); simp only [go_sem, *] <;> rfl)); (case hn => (intro hQz; (try simp only [wantB_t, wantB_f, Bool.and_eq_true, Bool.not_eq_true', Bool.not_true, Bool.not_false, and_true, true_and] at hQz); simp only [go_sem, *] <;> rfl)); (case hp => intro hQz; first | exact a4 | (have hXz := a4; simp only [go_sem, *] at hXz; exact hXz)))
 | (apply st_cd; (case hc => (simp only [go_sem, *] <;> rfl)); (case hl => (simp only [go_sem, *] <;> rfl)); (case hn => (simp only [go_sem, *] <;> rfl)); (case hp => first | exact a5 | (have hXz := a5; simp only [go_sem, *] at hXz; exact hXz)); (case hd => first | exact .v _ | exact .any | exact .nils | (repeat' (first | exact Dry.v _ | exact Dry.any | exact Dry.nils | exact Dry.slE | refine Dry.agg ?_ | refine Dry.tup ?_ | (refine List.forall_mem_cons.2 (And.intro ?_ ?_)) | (intro cQ hQ; cases hQ; done)))); (case hm => first | decide | (simp; done)))
 | (apply st_c; (case hc => (simp only [go_sem, *] <;> rfl)); (case hl => (simp only [go_sem, *] <;> rfl)); (case hn => (simp only [go_sem, *] <;> rfl)); (case hp => first | exact a6 | (have hXz := a6; simp only [go_sem, *] at hXz; exact hXz)))
 | (apply st_cd; (case hc => (simp only [go_sem, *] <;> rfl)); (case hl => (simp only [go_sem, *] <;> rfl)); (case hn => (simp only [go_sem, *] <;> rfl)); (case hp => first | exact a7 | (have hXz := a7; simp only [go_sem, *] at hXz; exact hXz)); (case hd => first | exact .v _ | exact .any | exact .nils | (repeat' (first | exact Dry.v _ | exact Dry.any | exact Dry.nils | exact Dry.slE | refine Dry.agg ?_ | refine Dry.tup ?_ | (refine List.forall_mem_cons.2 (And.intro ?_ ?_)) | (intro cQ hQ; cases hQ; done)))); (case hm => first | decide | (simp; done)))
 | (apply st_mc; (case hop => rfl); (case hg => (simp only [go_sem, *] <;> rfl)); (case hc => (intro hQz; (try simp only [wantB_t, wantB_f, Bool.and_eq_true, Bool.not_eq_true', Bool.not_true, Bool.not_false, and_true, true_and] at hQz); simp only [go_sem, *] <;> rfl)); (case hl => (intro hQz; (try simp only [wantB_t, wantB_f, Bool.and_eq_true, Bool.not_eq_true', Bool.not_true, Bool.not_false, and_true, true_and] at hQz); simp only [go_sem, *] <;> rfl)); (case hn => (intro hQz; (try simp only [wantB_t, wantB_f, Bool.and_eq_true, Bool.not_eq_true', Bool.not_true, Bool.not_false, and_true, true_and] at hQz); simp only [go_sem, *] <;> rfl)); (case hp => intro hQz; first | exact a8 | (have hXz := a8; simp only [go_sem, *] at hXz; exact hXz)))
 | (apply st_g; (case hv => (simp only [go_sem, *] <;> rfl)); all_goals (intro hg; (try simp only [Bool.not_true, Bool.not_false, reduceCtorEq] at hg); (try have hg' := hg); (try simp only [decide_eq_true_eq, decide_eq_false_iff_not, Bool.and_eq_true, Bool.or_eq_false_iff, bne_iff_ne, bne_eq_false_iff_eq, beq_iff_eq, beq_eq_false_iff_ne, Int.not_lt, Int.not_le, Int.ofNat_lt, Int.ofNat_le, Int.natCast_inj] at hg')))
 | (refine Awp.ret ?_; try simp only [go_sem, *]))
  all_goals repeat' (first | exact Lower.bool (by first | rfl | (simp only [true_and, Bool.true_and, Bool.false_and, Bool.and_true, Bool.and_false, Bool.true_or, Bool.false_or, reduceIte, Bool.false_eq_true, *]; done) | (simp only [true_and, reduceIte, Bool.false_eq_true, *] <;> rfl) | (simp [true_and]; done) | (simp_all [true_and]; done) | omega))
end Go.Proofs
namespace Go.Ab
end Go.Ab
namespace Go.Proofs
open Go Go.Ab
set_option maxHeartbeats 8000000
set_option maxRecDepth 100000
attribute [local irreducible] Awp aops aopsL Go.Ab.Pure PureOwn
end Go.Proofs
namespace Go.Proofs
open Go Go.Ab
set_option maxHeartbeats 4000000
set_option maxRecDepth 100000
attribute [local irreducible] Awp aops aopsL Go.Ab.Pure PureOwn
end Go.Proofs
namespace Go.Proofs
open Go Go.Ab
set_option maxHeartbeats 8000000
set_option maxRecDepth 100000
attribute [local irreducible] Awp aops aopsL Go.Ab.Pure PureOwn PureTwoM
end Go.Proofs
namespace Go.Proofs
open Go Go.Ab
set_option maxHeartbeats 1000000
end Go.Proofs
namespace Go.Proofs
open Go Go.Ab
set_option maxHeartbeats 8000000
set_option maxRecDepth 100000
attribute [local irreducible] Awp aops aopsL Go.Ab.Pure PureOwn PureTwoM
theorem fewW_size {l : List Wk} {n : Int} (h : fewW l n = true) : (l.length : Int) ≤ n ∧ ∀ q ∈ l, q.af.length ≤ 20 ∧ q.id.size ≤ 100 := by
  unfold fewW at h
  rw [Bool.and_eq_true, decide_eq_true_eq, List.all_eq_true] at h
  refine ⟨h.1, fun q hq => ?_⟩
  have := h.2 q hq
  unfold bigWk at this
  simp only [Bool.not_eq_true', Bool.or_eq_false_iff, decide_eq_false_iff_not] at this
  omega
theorem checks_ok (l : List Wk) (bs : List By) (P : List Sty) : Pure Tryz.prog 5 [.sl (wks l), .sl (bys bs), .sl (stys P)] (.v (.bool true)) := by
  have f0 := fewW_ok l 20 (by decide)
  have f1 := alive_ok
  have f2 := few_ok bs P
  cases hF : fewW l 20
  · rw [hF] at f0
    refine fn_pure Tryz.F5 (Nat.le_of_ble_eq_true rfl) ?_; unfold Tryz.ac5 AR AM AO
    repeat' (first
 | (apply Awp.sreg; (case hn => (simp only [List.length_cons, List.length_nil, Nat.reduceAdd] <;> rfl)))
 | (refine st_nil ?_)
 | (apply st_a; (case hc => rfl); (case he => (simp only [go_sem, *] <;> rfl)); (case hu => (simp only [updL_nil, updL_cons] <;> rfl)); (case hp => first | trivial))
 | (apply st_m; (case hc => rfl); (case hg => (simp only [go_sem, *] <;> rfl)); (case he => (intro hQz; (try simp only [wantB_t, wantB_f, Bool.and_eq_true, Bool.not_eq_true', Bool.not_true, Bool.not_false, and_true, true_and] at hQz); simp only [go_sem, *] <;> rfl)); (case hp => (intro hQz; (try simp only [wantB_t, wantB_f, Bool.and_eq_true, Bool.not_eq_true', Bool.or_eq_false_iff, decide_eq_true_eq, decide_eq_false_iff_not, beq_iff_eq, beq_eq_false_iff_ne, bne_iff_ne, bne_eq_false_iff_eq, Int.not_lt, Int.not_le, Int.ofNat_lt, Int.ofNat_le] at hQz); first | trivial)))
 | (apply st_c; (case hc => (simp only [go_sem, *] <;> rfl)); (case hl => (simp only [go_sem, *] <;> rfl)); (case hn => (simp only [go_sem, *] <;> rfl)); (case hp => first | exact f0 | (have hXz := f0; simp only [go_sem, *] at hXz; exact hXz)))
 | (apply st_c; (case hc => (simp only [go_sem, *] <;> rfl)); (case hl => (simp only [go_sem, *] <;> rfl)); (case hn => (simp only [go_sem, *] <;> rfl)); (case hp => first | exact f1 | (have hXz := f1; simp only [go_sem, *] at hXz; exact hXz)))
 | (apply st_mc; (case hop => rfl); (case hg => (simp only [go_sem, *] <;> rfl)); (case hc => (intro hQz; (try simp only [wantB_t, wantB_f, Bool.and_eq_true, Bool.not_eq_true', Bool.not_true, Bool.not_false, and_true, true_and] at hQz); simp only [go_sem, *] <;> rfl)); (case hl => (intro hQz; (try simp only [wantB_t, wantB_f, Bool.and_eq_true, Bool.not_eq_true', Bool.not_true, Bool.not_false, and_true, true_and] at hQz); simp only [go_sem, *] <;> rfl)); (case hn => (intro hQz; (try simp only [wantB_t, wantB_f, Bool.and_eq_true, Bool.not_eq_true', Bool.not_true, Bool.not_false, and_true, true_and] at hQz); simp only [go_sem, *] <;> rfl)); (case hp => intro hQz; first | exact f2 | (have hXz := f2; simp only [go_sem, *] at hXz; exact hXz)))
 | (refine Awp.ret ?_; try simp only [go_sem, *])
 | (apply Awp.cond; (case hc => (simp only [go_sem, *] <;> rfl)); all_goals (intro hg; (try simp only [Bool.not_true, Bool.not_false, reduceCtorEq] at hg); (try have hg' := hg); (try simp only [decide_eq_true_eq, decide_eq_false_iff_not, Bool.and_eq_true, Bool.or_eq_false_iff, bne_iff_ne, bne_eq_false_iff_eq, beq_iff_eq, beq_eq_false_iff_ne, Int.not_lt, Int.not_le, Int.ofNat_lt, Int.ofNat_le, Int.natCast_inj] at hg')))
 | refine Awp.seq ?_)
    all_goals repeat' (first | exact Lower.bool (by first | rfl | (simp only [true_and, Bool.true_and, Bool.false_and, Bool.and_true, Bool.and_false, Bool.true_or, Bool.false_or, reduceIte, Bool.false_eq_true, *]; done) | (simp only [true_and, reduceIte, Bool.false_eq_true, *] <;> rfl) | (simp [true_and]; done) | (simp_all [true_and]; done) | omega))
  · rw [hF] at f0
    cases hB : fewB bs P
    · rw [hB] at f2
      clear hF hB
      refine fn_pure Tryz.F5 (Nat.le_of_ble_eq_true rfl) ?_; unfold Tryz.ac5 AR AM AO
      repeat' (first
 | (apply Awp.sreg; (case hn => (simp only [List.length_cons, List.length_nil, Nat.reduceAdd] <;> rfl)))
 | (refine st_nil ?_)
 | (apply st_a; (case hc => rfl); (case he => (simp only [go_sem, *] <;> rfl)); (case hu => (simp only [updL_nil, updL_cons] <;> rfl)); (case hp => first | trivial))
 | (apply st_m; (case hc => rfl); (case hg => (simp only [go_sem, *] <;> rfl)); (case he => (intro hQz; (try simp only [wantB_t, wantB_f, Bool.and_eq_true, Bool.not_eq_true', Bool.not_true, Bool.not_false, and_true, true_and] at hQz); simp only [go_sem, *] <;> rfl)); (case hp => (intro hQz; (try simp only [wantB_t, wantB_f, Bool.and_eq_true, Bool.not_eq_true', Bool.or_eq_false_iff, decide_eq_true_eq, decide_eq_false_iff_not, beq_iff_eq, beq_eq_false_iff_ne, bne_iff_ne, bne_eq_false_iff_eq, Int.not_lt, Int.not_le, Int.ofNat_lt, Int.ofNat_le] at hQz); first | trivial)))
 | (apply st_c; (case hc => (simp only [go_sem, *] <;> rfl)); (case hl => (simp only [go_sem, *] <;> rfl)); (case hn => (simp only [go_sem, *] <;> rfl)); (case hp => first | exact f0 | (have hXz := f0; simp only [go_sem, *] at hXz; exact hXz)))
 | (apply st_c; (case hc => (simp only [go_sem, *] <;> rfl)); (case hl => (simp only [go_sem, *] <;> rfl)); (case hn => (simp only [go_sem, *] <;> rfl)); (case hp => first | exact f1 | (have hXz := f1; simp only [go_sem, *] at hXz; exact hXz)))
 | (apply st_mc; (case hop => rfl); (case hg => (simp only [go_sem, *] <;> rfl)); (case hc => (intro hQz; (try simp only [wantB_t, wantB_f, Bool.and_eq_true, Bool.not_eq_true', Bool.not_true, Bool.not_false, and_true, true_and] at hQz); simp only [go_sem, *] <;> rfl)); (case hl => (intro hQz; (try simp only [wantB_t, wantB_f, Bool.and_eq_true, Bool.not_eq_true', Bool.not_true, Bool.not_false, and_true, true_and] at hQz); simp only [go_sem, *] <;> rfl)); (case hn => (intro hQz; (try simp only [wantB_t, wantB_f, Bool.and_eq_true, Bool.not_eq_true', Bool.not_true, Bool.not_false, and_true, true_and] at hQz); simp only [go_sem, *] <;> rfl)); (case hp => intro hQz; first | exact f2 | (have hXz := f2; simp only [go_sem, *] at hXz; exact hXz)))
 | (refine Awp.ret ?_; try simp only [go_sem, *])
 | (apply Awp.cond; (case hc => (simp only [go_sem, *] <;> rfl)); all_goals (intro hg; (try simp only [Bool.not_true, Bool.not_false, reduceCtorEq] at hg); (try have hg' := hg); (try simp only [decide_eq_true_eq, decide_eq_false_iff_not, Bool.and_eq_true, Bool.or_eq_false_iff, bne_iff_ne, bne_eq_false_iff_eq, beq_iff_eq, beq_eq_false_iff_ne, Int.not_lt, Int.not_le, Int.ofNat_lt, Int.ofNat_le, Int.natCast_inj] at hg')))
 | refine Awp.seq ?_)
      all_goals repeat' (first | exact Lower.bool (by first | rfl | (simp only [true_and, Bool.true_and, Bool.false_and, Bool.and_true, Bool.and_false, Bool.true_or, Bool.false_or, reduceIte, Bool.false_eq_true, *]; done) | (simp only [true_and, reduceIte, Bool.false_eq_true, *] <;> rfl) | (simp [true_and]; done) | (simp_all [true_and]; done) | omega))
    · rw [hB] at f2
      obtain ⟨hl, ha⟩ := fewW_size hF
      obtain ⟨hbl, hpl, hps⟩ := few_size hB
      have hb : ∀ q ∈ l, q.af.length < 1000000 ∧ q.id.size < 1000000 := fun q hq => by have := ha q hq; omega
      have c0 := pchk_ok l bs P (by omega) (by omega) (by omega) (fun q hq => (hb q hq).1)
      have c1 := rpchk_ok l bs P (by omega) (by omega) (by omega) hb (fun i hi => by have := hps i hi; omega)
      rw [← chk_same] at c1
      have c2 := span_ok P (by omega)
      have c3 := rspan_ok P (by omega)
      generalize pchkE l bs P = e at *
      generalize spanE P = n at *
      have h1 : (e == e) = true := beq_self_eq_true e
      have h2 : (n == n) = true := beq_self_eq_true n
      clear ha hb hl hF hB hbl hpl hps
      refine fn_pure Tryz.F5 (Nat.le_of_ble_eq_true rfl) ?_; unfold Tryz.ac5 AR AM AO
      repeat' (first
 | (apply Awp.sreg; (case hn => (simp only [List.length_cons, List.length_nil, Nat.reduceAdd] <;> rfl)))
 | (refine st_nil ?_)
 | (apply st_a; (case hc => rfl); (case he => (simp only [go_sem, *] <;> rfl)); (case hu => (simp only [updL_nil, updL_cons] <;> rfl)); (case hp => first | trivial))
 | (apply st_m; (case hc => rfl); (case hg => (simp only [go_sem, *] <;> rfl)); (case he => (intro hQz; (try simp only [wantB_t, wantB_f, Bool.and_eq_true, Bool.not_eq_true', Bool.not_true, Bool.not_false, and_true, true_and] at hQz); simp only [go_sem, *] <;> rfl)); (case hp => (intro hQz; (try simp only [wantB_t, wantB_f, Bool.and_eq_true, Bool.not_eq_true', Bool.or_eq_false_iff, decide_eq_true_eq, decide_eq_false_iff_not, beq_iff_eq, beq_eq_false_iff_ne, bne_iff_ne, bne_eq_false_iff_eq, Int.not_lt, Int.not_le, Int.ofNat_lt, Int.ofNat_le] at hQz); first | trivial)))
 | (apply st_c; (case hc => (simp only [go_sem, *] <;> rfl)); (case hl => (simp only [go_sem, *] <;> rfl)); (case hn => (simp only [go_sem, *] <;> rfl)); (case hp => first | exact f0 | (have hXz := f0; simp only [go_sem, *] at hXz; exact hXz)))
 | (apply st_mc; (case hop => rfl); (case hg => (simp only [go_sem, *] <;> rfl)); (case hc => (intro hQz; (try simp only [wantB_t, wantB_f, Bool.and_eq_true, Bool.not_eq_true', Bool.not_true, Bool.not_false, and_true, true_and] at hQz); simp only [go_sem, *] <;> rfl)); (case hl => (intro hQz; (try simp only [wantB_t, wantB_f, Bool.and_eq_true, Bool.not_eq_true', Bool.not_true, Bool.not_false, and_true, true_and] at hQz); simp only [go_sem, *] <;> rfl)); (case hn => (intro hQz; (try simp only [wantB_t, wantB_f, Bool.and_eq_true, Bool.not_eq_true', Bool.not_true, Bool.not_false, and_true, true_and] at hQz); simp only [go_sem, *] <;> rfl)); (case hp => intro hQz; first | exact f1 | (have hXz := f1; simp only [go_sem, *] at hXz; exact hXz)))
 | (apply st_mc; (case hop => rfl); (case hg => (simp only [go_sem, *] <;> rfl)); (case hc => (intro hQz; (try simp only [wantB_t, wantB_f, Bool.and_eq_true, Bool.not_eq_true', Bool.not_true, Bool.not_false, and_true, true_and] at hQz); simp only [go_sem, *] <;> rfl)); (case hl => (intro hQz; (try simp only [wantB_t, wantB_f, Bool.and_eq_true, Bool.not_eq_true', Bool.not_true, Bool.not_false, and_true, true_and] at hQz); simp only [go_sem, *] <;> rfl)); (case hn => (intro hQz; (try simp only [wantB_t, wantB_f, Bool.and_eq_true, Bool.not_eq_true', Bool.not_true, Bool.not_false, and_true, true_and] at hQz); simp only [go_sem, *] <;> rfl)); (case hp => intro hQz; first | exact f2 | (have hXz := f2; simp only [go_sem, *] at hXz; exact hXz)))
 | (apply st_c; (case hc => (simp only [go_sem, *] <;> rfl)); (case hl => (simp only [go_sem, *] <;> rfl)); (case hn => (simp only [go_sem, *] <;> rfl)); (case hp => first | exact c0 | (have hXz := c0; simp only [go_sem, *] at hXz; exact hXz)))
 | (apply st_c; (case hc => (simp only [go_sem, *] <;> rfl)); (case hl => (simp only [go_sem, *] <;> rfl)); (case hn => (simp only [go_sem, *] <;> rfl)); (case hp => first | exact c1 | (have hXz := c1; simp only [go_sem, *] at hXz; exact hXz)))
 | (apply st_mc; (case hop => rfl); (case hg => (simp only [go_sem, *] <;> rfl)); (case hc => (intro hQz; (try simp only [wantB_t, wantB_f, Bool.and_eq_true, Bool.not_eq_true', Bool.not_true, Bool.not_false, and_true, true_and] at hQz); simp only [go_sem, *] <;> rfl)); (case hl => (intro hQz; (try simp only [wantB_t, wantB_f, Bool.and_eq_true, Bool.not_eq_true', Bool.not_true, Bool.not_false, and_true, true_and] at hQz); simp only [go_sem, *] <;> rfl)); (case hn => (intro hQz; (try simp only [wantB_t, wantB_f, Bool.and_eq_true, Bool.not_eq_true', Bool.not_true, Bool.not_false, and_true, true_and] at hQz); simp only [go_sem, *] <;> rfl)); (case hp => intro hQz; first | exact c2 | (have hXz := c2; simp only [go_sem, *] at hXz; exact hXz)))
 | (apply st_mc; (case hop => rfl); (case hg => (simp only [go_sem, *] <;> rfl)); (case hc => (intro hQz; (try simp only [wantB_t, wantB_f, Bool.and_eq_true, Bool.not_eq_true', Bool.not_true, Bool.not_false, and_true, true_and] at hQz); simp only [go_sem, *] <;> rfl)); (case hl => (intro hQz; (try simp only [wantB_t, wantB_f, Bool.and_eq_true, Bool.not_eq_true', Bool.not_true, Bool.not_false, and_true, true_and] at hQz); simp only [go_sem, *] <;> rfl)); (case hn => (intro hQz; (try simp only [wantB_t, wantB_f, Bool.and_eq_true, Bool.not_eq_true', Bool.not_true, Bool.not_false, and_true, true_and] at hQz); simp only [go_sem, *] <;> rfl)); (case hp => intro hQz; first | exact c3 | (have hXz := c3; simp only [go_sem, *] at hXz; exact hXz)))
 | (refine Awp.ret ?_; try simp only [go_sem, *])
 | (refine Awp.skip ?_; try simp only [go_sem, *])
 | (apply Awp.cond; (case hc => (simp only [go_sem, *] <;> rfl)); all_goals (intro hg; (try simp only [Bool.not_true, Bool.not_false, reduceCtorEq] at hg); (try have hg' := hg); (try simp only [decide_eq_true_eq, decide_eq_false_iff_not, Bool.and_eq_true, Bool.or_eq_false_iff, bne_iff_ne, bne_eq_false_iff_eq, beq_iff_eq, beq_eq_false_iff_ne, Int.not_lt, Int.not_le, Int.ofNat_lt, Int.ofNat_le, Int.natCast_inj] at hg')))
 | refine Awp.seq ?_)
      all_goals repeat' (first | exact Lower.bool (by first | rfl | (simp only [true_and, Bool.true_and, Bool.false_and, Bool.and_true, Bool.and_false, Bool.true_or, Bool.false_or, reduceIte, Bool.false_eq_true, *]; done) | (simp only [true_and, reduceIte, Bool.false_eq_true, *] <;> rfl) | (simp [true_and]; done) | (simp_all [true_and]; done) | omega))
end Go.Proofs
namespace Go.Ab
open Go.ChangeShapes Go.WideShapes Go.RowKit

theorem Keeps.below {W W' : World} (h : Keeps W W') : Below W.heap.size W W' := ⟨h.os, h.tape, h.out, h.size, h.heap⟩

section
variable {H : Type} {enc : TypeId × Value → H} {P : Program}

theorem trodAll_keeps (hl : laidOutB P = true) {W W' : World} {sp : Nat → Bool} (hb : Below W.heap.size W W') :
    ∀ {ts : List TypeId} {vs : List Value} {ds : List (DataW H)} {ps : List MemPlace}, (∀ t ∈ ts, P.readableRec t = true ∧ t < P.types.size) → (∀ x ∈ ps, x.block < W.heap.size) → (∀ x ∈ ps, sp x.block = true) →
      DataW.TrodAll enc P W 0 (fun _ => true) true ts vs ds ps → DataW.TrodAll enc P W' 0 sp true ts vs ds ps
  | [], _, _, _, _, _, _, h => by
    obtain ⟨rfl, rfl, rfl⟩ := trodAll_nil h
    exact trodAll_mk0
  | t :: ts, _, _, _, hts, hlt, hsp, h => by
    obtain ⟨v, vs, d, ds, a, b, rfl, rfl, rfl, h1, h2⟩ := trodAll_cons h
    obtain ⟨hr, hrow⟩ := hts t (List.mem_cons.2 (.inl rfl))
    refine trodAll_cons_mk (WideElems.Trod_stays hl hr hrow h1 (fun x hx => hb.same (hlt x ?_)) (fun x hx => hsp x ?_)) (trodAll_keeps hl hb (fun u hu => hts u (List.mem_cons.2 (.inr hu))) (fun x hx => hlt x ?_) (fun x hx => hsp x ?_) h2)
    all_goals simp [hx]

theorem post_true {f : Func} {s : ChangeSpec} {apart fresh handsOn again : Bool} {W W' : World} {args : Array Value} {ds gs : List (DataW H)} {before : List MemPlace} {tb : TypeId}
    (hl : laidOutB P = true) (htb' : (f.params.toList.all fun t => P.readableRec t && decide (t < P.types.size)) = true) (hrt : f.resultTypes = #[tb]) (htb : P.underlying tb = some .bool) (hs : s.vars = [])
    (hW : DataW.Whole enc P f.params.toList s.vars apart W args.toList ds gs before) (hb : Below W.heap.size W W')
    (hf : (s.fn H (ds ++ gs)).results = [.lit (.bool true)] ∧ (s.fn H (ds ++ gs)).args = ds ∧ (s.fn H (ds ++ gs)).vars = []) :
    s.post enc P f apart fresh handsOn again W args (.bool true) W' := by
  have hts : ∀ t ∈ f.params.toList, P.readableRec t = true ∧ t < P.types.size := fun t ht => by simpa using List.all_eq_true.1 htb' t ht
  have hW' := hW
  obtain ⟨p, q, hA, hV, hpq, hz, hn⟩ := hW
  have hV0 : gs = [] ∧ q = [] := by rw [hs] at hV; exact trodVars_none hV
  obtain ⟨rfl, rfl⟩ := hV0
  obtain rfl : before = p := by simpa using hpq
  obtain ⟨f1, f2, f3⟩ := hf
  have hlt : ∀ x ∈ before, x.block < W.heap.size := fun x hx => hW'.lt x hx
  have hargs : ∀ sp : Nat → Bool, (∀ x ∈ before, sp x.block = true) → DataW.TrodAll enc P W' 0 sp true f.params.toList args.toList (s.fn H (ds ++ [])).args before := fun sp hsp => by
    rw [f2]; exact trodAll_keeps hl hb hts hlt hsp hA
  have hvars : ∀ sp : Nat → Bool, DataW.TrodVars enc P W' sp s.vars (s.fn H (ds ++ [])).vars [] := fun sp => by rw [f3, hs]; rfl
  have hres : ∀ (b : Nat) (sp : Nat → Bool) (hd : Bool), DataW.TrodAll enc P W' b sp hd f.resultTypes.toList ((Value.bool true).resultList f.resultTypes.size) (s.fn H (ds ++ [])).results [] := fun b sp hd => by
    rw [f1, hrt]; exact trodAll_cons_mk (shut_bool htb _) trodAll_mk0
  have hold : ∀ x ∈ before, (fun b => decide (b < W.heap.size)) x.block = true := fun x hx => by simpa using hlt x hx
  refine ⟨ds, [], before, [], before, [], hW', hres _ _ _, hargs _ hold, hvars _, World.keptBut_mono (fun x hx => ⟨hx, .inr (by simpa using hx)⟩) (hb.frame (· ∈ before)), fun _ => ⟨?_, _, _, ([] ++ before) ++ [], ⟨[] ++ before, [], trodAll_append (hargs _ fun _ _ => rfl) (hres _ _ _), hvars _, rfl, ?_, ?_⟩, ?_⟩⟩
  · exact ok_one hrt rfl (okWide_bool_mk htb _)
  · intro b off hp
    have hp' : MemPlace.cell b off ∈ before := by simpa using hp
    rw [hb.frozen (p := ⟨b, off, none⟩) (hlt _ hp')]
    exact hz b off hp'
  · intro ha
    simpa using hn ha
  · intro x hx _
    simpa using hx

theorem pargs3 {w : World} {a0 a1 a2 : AV} {c0 c1 c2 : Value} (h0 : PureV (fun g => g < w.heap.size ∧ True) w a0 c0) (h1 : PureV (fun g => g < w.heap.size ∧ True) w a1 c1) (h2 : PureV (fun g => g < w.heap.size ∧ True) w a2 c2) : PArgs (fun _ => True) w [a0, a1, a2] [c0, c1, c2] :=
  ⟨rfl, fun j hj => by match j, hj with | 0, _ => exact h0 | 1, _ => exact h1 | 2, _ => exact h2⟩
/-- A contract that says 'true', at a call whose arguments read so: the row's 'post'. -/
theorem calls_true {f : Func} {fid : FuncId} {s : ChangeSpec} {apart fresh handsOn again : Bool} {W : World} {asz : List AV} {cs : List Value} {ds gs : List (DataW H)} {before : List MemPlace} {tb : TypeId}
    (hl : laidOutB P = true) (htb' : (f.params.toList.all fun t => P.readableRec t && decide (t < P.types.size)) = true) (hrt : f.resultTypes = #[tb]) (htb : P.underlying tb = some .bool) (hs : s.vars = [])
    (hW : DataW.Whole enc P f.params.toList s.vars apart W cs.toArray.toList ds gs before) (hf : (s.fn H (ds ++ gs)).results = [.lit (.bool true)] ∧ (s.fn H (ds ++ gs)).args = ds ∧ (s.fn H (ds ++ gs)).vars = [])
    (hc : Pure P fid asz (.v (.bool true))) (ha : PArgs (fun _ => True) W asz cs) :
    Calls P fid cs.toArray W fun e W' => ∃ v, e = .returned v ∧ s.post enc P f apart fresh handsOn again W cs.toArray v W' := by
  refine (hc.2 _ W cs ha).mono fun e W' ⟨c, he, hk, hv⟩ => ?_
  obtain rfl : c = .bool true := by cases hv; rfl
  exact ⟨_, he, post_true hl htb' hrt htb hs hW hk.below hf⟩
end
end Go.Ab
namespace Go.Ab
open Go.ChangeShapes Go.WideShapes Go.RowKit

/-- Fields that lie one behind the other. -/
def tiledTo (P : Program) (off : Nat) : List Field → Nat → Bool
  | [], e => off == e
  | f :: fs, e => f.offset == off && tiledTo P (off + P.cellsOf f.type) fs e

def readsTy (P : Program) : Nat → TypeId → Bool
  | 0, _ => false
  | n + 1, t => match P.underlying t with
    | some (.int _) | some .bool | some .string => P.cellsOf t == 1
    | some (.struct fs) => tiledTo P 0 fs.toList (P.cellsOf t) && fs.toList.all fun f => readsTy P n f.type
    | some (.slice e) => P.cellsOf t == 1 && decide (0 < P.cellsOf e) && readsTy P n e
    | some (.array k e) => P.cellsOf t == k * P.cellsOf e && readsTy P n e
    | _ => false

def FieldsShape (S : TypeId → List AV → Prop) : List TypeId → List AV → Prop
  | [], asz => asz = []
  | t :: ts, asz => ∃ p q, asz = p ++ q ∧ S t p ∧ FieldsShape S ts q

/-- The cells of a value of a type. -/
def Shape (P : Program) : Nat → TypeId → List AV → Prop
  | 0, _, _ => False
  | n + 1, t, asz => match P.underlying t with
    | some (.int k) => ∃ i, asz = [.v (.int k i)] ∧ (Lit.int k i).wf = true
    | some .bool => ∃ b, asz = [.v (.bool b)]
    | some .string => ∃ s : ByteArray, asz = [.v (.string s)] ∧ s.size ≤ maxLen
    | some (.struct fs) => FieldsShape (Shape P n) (fs.toList.map (·.type)) asz
    | some (.slice e) => ∃ es, asz = [.sl es] ∧ es.length ≤ maxLen ∧ ∀ r ∈ es, Shape P n e r
    | some (.array k e) => ∃ rs : List (List AV), asz = rs.flatten ∧ rs.length = k ∧ ∀ r ∈ rs, Shape P n e r
    | _ => False

theorem av_append_left {p q : List AV} {j : Nat} (h : j < p.length) : av (p ++ q) j = av p j := by
  simp [av, List.getD_eq_getElem?_getD, List.getElem?_append_left h]
theorem av_append_right {p q : List AV} {j : Nat} (h : p.length ≤ j) : av (p ++ q) j = av q (j - p.length) := by
  simp [av, List.getD_eq_getElem?_getD, List.getElem?_append_right h]
theorem cv_piece {cs : List Value} {o k j : Nat} (h : j < k) : cv ((cs.drop o).take k) j = cv cs (o + j) := by
  simp [cv, List.getD_eq_getElem?_getD, List.getElem?_take_of_lt h, List.getElem?_drop]

theorem lists {α : Type} {Q : Nat → α → Prop} : ∀ (n : Nat), (∀ i, i < n → ∃ a, Q i a) → ∃ l : List α, l.length = n ∧ ∀ i a, l[i]? = some a → Q i a
  | 0, _ => ⟨[], rfl, fun i a h => by simp at h⟩
  | n + 1, h => by
    obtain ⟨l, hl, hq⟩ := lists n fun i hi => h i (by omega)
    obtain ⟨a, ha⟩ := h n (by omega)
    refine ⟨l ++ [a], by simp [hl], fun i b hb => ?_⟩
    rcases Nat.lt_or_ge i n with hi | hi
    · rw [List.getElem?_append_left (by omega)] at hb; exact hq i b hb
    · rw [List.getElem?_append_right (by omega)] at hb
      by_cases e : i - l.length = 0
      · rw [e] at hb
        obtain rfl : a = b := by simpa using hb
        obtain rfl : i = n := by omega
        exact ha
      · rw [List.getElem?_eq_none (by simp; omega)] at hb; simp at hb

def CellsOk (w : World) (asz : List AV) (cs : List Value) (o : Nat) : Prop :=
  ∀ j, j < asz.length → PureV (fun g => g < w.heap.size) w (av asz j) (cv cs (o + j)) ∧ (cv cs (o + j)).oneCell' = true

theorem CellsOk.append {w : World} {p q : List AV} {cs : List Value} {o : Nat} (h1 : CellsOk w p cs o) (h2 : CellsOk w q cs (o + p.length)) : CellsOk w (p ++ q) cs o := by
  intro j hj
  rcases Nat.lt_or_ge j p.length with h | h
  · rw [av_append_left h]; exact h1 j h
  · rw [av_append_right h]
    have := h2 (j - p.length) (by simp at hj; omega)
    rwa [show o + p.length + (j - p.length) = o + j by omega] at this

section
variable {H : Type} {enc : TypeId × Value → H} {P : Program} {w : World} {spare : Nat → Bool} {held : Bool}

theorem read_fields {S : TypeId → List AV → Prop} {cs : List Value} : ∀ (fs : List Field) (o e : Nat), tiledTo P o fs e = true → e ≤ cs.length →
    (∀ f ∈ fs, ∃ asz, S f.type asz ∧ asz.length = P.cellsOf f.type ∧ CellsOk w asz cs f.offset) → ∃ asz, FieldsShape S (fs.map (·.type)) asz ∧ o + asz.length = e ∧ CellsOk w asz cs o
  | [], o, e, ht, _, _ => ⟨[], rfl, by simpa [tiledTo] using ht, fun j hj => by simp at hj⟩
  | f :: fs, o, e, ht, he, hf => by
    simp only [tiledTo, Bool.and_eq_true, beq_iff_eq] at ht
    obtain ⟨p, hp, hpl, hpc⟩ := hf f (List.mem_cons.2 (.inl rfl))
    obtain ⟨q, hq, hql, hqc⟩ := read_fields fs _ e ht.2 he fun g hg => hf g (List.mem_cons.2 (.inr hg))
    rw [ht.1] at hpc
    rw [← hpl] at hqc hql
    exact ⟨p ++ q, ⟨p, q, rfl, hp, hq⟩, by simp; omega, hpc.append hqc⟩

theorem read_rows {S : List AV → Prop} {cs : List Value} {sz : Nat} : ∀ (k o : Nat),
    (∀ i, i < k → ∃ asz, S asz ∧ asz.length = sz ∧ CellsOk w asz cs (o + i * sz)) → ∃ rs : List (List AV), rs.length = k ∧ (∀ r ∈ rs, S r) ∧ rs.flatten.length = k * sz ∧ CellsOk w rs.flatten cs o
  | 0, o, _ => ⟨[], rfl, by simp, by simp, fun j hj => by simp at hj⟩
  | k + 1, o, h => by
    obtain ⟨p, hp, hpl, hpc⟩ := h 0 (by omega)
    obtain ⟨rs, hl, hs, hf, hc⟩ := read_rows k (o + sz) fun i hi => by
      obtain ⟨asz, h1, h2, h3⟩ := h (i + 1) (by omega)
      exact ⟨asz, h1, h2, by rwa [show o + sz + i * sz = o + (i + 1) * sz by rw [Nat.add_mul]; omega]⟩
    refine ⟨p :: rs, by simp [hl], fun r hr => ?_, by simp [hf, hpl, Nat.add_mul, Nat.add_comm], ?_⟩
    · rcases List.mem_cons.1 hr with rfl | hr
      · exact hp
      · exact hs r hr
    · simp only [List.flatten_cons]
      refine CellsOk.append (by simpa using hpc) (by rw [hpl]; exact hc)

theorem read_ty : ∀ (n : Nat) (t : TypeId), readsTy P n t = true → ∀ {fuel : Nat} {cs : List Value} {x : DataW H × List MemPlace}, DataW.trod enc P w 0 spare held fuel t cs = some x →
    cs.length = P.cellsOf t ∧ ∃ asz, Shape P n t asz ∧ asz.length = cs.length ∧ CellsOk w asz cs 0
  | 0, t, ht, _, _, _, _ => by simp [readsTy] at ht
  | n + 1, t, ht, fuel, cs, x, h => by
    unfold readsTy at ht
    unfold Shape
    split at ht
    · rename_i k hu
      obtain ⟨i, rfl, _, hw⟩ := DataW.trod_int hu h
      exact ⟨by simpa using (by simpa using ht : P.cellsOf t = 1).symm, _, ⟨i, rfl, hw⟩, rfl, fun j hj => by match j, hj with | 0, _ => exact ⟨.v _, rfl⟩⟩
    · rename_i hu
      obtain ⟨b, rfl, _⟩ := DataW.trod_bool hu h
      exact ⟨by simpa using (by simpa using ht : P.cellsOf t = 1).symm, _, ⟨b, rfl⟩, rfl, fun j hj => by match j, hj with | 0, _ => exact ⟨.v _, rfl⟩⟩
    · rename_i hu
      obtain ⟨s, rfl, _, hw⟩ := DataW.trod_string hu h
      exact ⟨by simpa using (by simpa using ht : P.cellsOf t = 1).symm, _, ⟨s, rfl, hw⟩, rfl, fun j hj => by match j, hj with | 0, _ => exact ⟨.v _, rfl⟩⟩
    · rename_i fs hu
      simp only [Bool.and_eq_true, List.all_eq_true] at ht
      obtain ⟨xs, m, _, _, hl, hlen, hf⟩ := DataW.trod_struct hu h
      refine ⟨hl, ?_⟩
      obtain ⟨asz, h1, h2, h3⟩ := read_fields (S := Shape P n) (w := w) (cs := cs) fs.toList 0 (P.cellsOf t) ht.1 (by omega) fun f hfm => by
        obtain ⟨i, hi, hfi⟩ := List.getElem_of_mem hfm
        have hi' : i < fs.size := by simpa using hi
        have e1 : fs[i]? = some f := by rw [Array.getElem?_eq_getElem hi']; simpa using hfi
        have h4 := hf i f e1
        obtain ⟨y, hy⟩ : ∃ y, xs[i]? = some y := ⟨_, List.getElem?_eq_getElem (by omega)⟩
        rw [hy] at h4
        obtain ⟨k1, asz, k2, k3, k4⟩ := read_ty n f.type (ht.2 f hfm) h4
        refine ⟨asz, k2, by omega, fun j hj => ?_⟩
        have := k4 j hj
        rw [Nat.zero_add, cv_piece (by omega)] at this
        exact this
      exact ⟨asz, h1, by omega, h3⟩
    · rename_i e hu
      simp only [Bool.and_eq_true, decide_eq_true_eq, beq_iff_eq] at ht
      rcases DataW.trod_slice hu h with ⟨rfl, _⟩ | ⟨a, len, cap, elems, rest, m, _, rfl, _, hb, hl, hm, hlen, hel, _, _⟩
      · exact ⟨by simpa using ht.1.1.symm, _, ⟨[], rfl, by simp, by simp⟩, rfl, fun j hj => by match j, hj with | 0, _ => exact ⟨.slE none 0 (by simp), rfl⟩⟩
      · refine ⟨by simpa using ht.1.1.symm, ?_⟩
        have each : ∀ i, i < len → ∃ asz : List AV × List Value, Shape P n e asz.1 ∧ asz.1.length = P.cellsOf e ∧ (∀ j, j < P.cellsOf e → w.cell? ((a.add (i * P.cellsOf e)).add j) = some (cv asz.2 j)) ∧ CellsOk w asz.1 asz.2 0 := by
          intro i hi
          have h4 := hel i hi
          obtain ⟨y, hy⟩ : ∃ y, elems[i]? = some y := ⟨_, List.getElem?_eq_getElem (by omega)⟩
          rw [hy, Option.bind_eq_some_iff] at h4
          obtain ⟨cs', hc, ht'⟩ := h4
          obtain ⟨k1, asz, k2, k3, k4⟩ := read_ty n e ht.2 ht'
          obtain ⟨_, hcl, hca⟩ := World.cells?_some hc
          refine ⟨(asz, cs'), k2, by simp; omega, fun j hj => ?_, k4⟩
          rw [hca j hj]
          have : j < cs'.length := by omega
          simp [cv, List.getD_eq_getElem?_getD, this]
        obtain ⟨l, hll, hlq⟩ := lists len each
        by_cases h0 : len = 0
        · subst h0
          exact ⟨_, ⟨[], rfl, by simp, by simp⟩, rfl, fun j hj => by match j, hj with | 0, _ => exact ⟨.slE (some a) cap hm, rfl⟩⟩
        · have hg0 := (hlq 0 _ (List.getElem?_eq_getElem (by omega))).2.2.1 0 ht.1.2
          obtain ⟨g, off, q⟩ := a
          have hq : q = none ∧ g < w.heap.size := by
            have e0 : ((Addr.mk g off q).add (0 * P.cellsOf e)).add 0 = ⟨g, off, q⟩ := by simp [Addr.add]
            rw [e0] at hg0
            unfold World.cell? at hg0
            cases hg : w.heap[g]? with
            | none => simp [hg] at hg0
            | some o =>
              refine ⟨?_, (Array.getElem?_eq_some_iff.1 hg).1⟩
              cases q with
              | none => rfl
              | some v => cases o <;> simp [hg] at hg0
          obtain ⟨rfl, hlt⟩ := hq
          have hes : (l.map (·.1)).length = len := by simp [hll]
          have at_ : ∀ i (hi : i < len), ∃ asz, l[i]? = some asz ∧ (l.map (·.1)).getD i [] = asz.1 ∧ (fun i j => cv ((l.map (·.2)).getD i []) j) i = cv asz.2 := by
            intro i hi
            refine ⟨l[i]'(by omega), List.getElem?_eq_getElem (by omega), ?_, ?_⟩
            · simp [List.getD_eq_getElem?_getD, List.getElem?_eq_getElem (show i < l.length by omega)]
            · funext j
              simp [List.getD_eq_getElem?_getD, List.getElem?_eq_getElem (show i < l.length by omega)]
          have hp := PureV.slC (st := fun g => g < w.heap.size) (w := w) (l.map (·.1)) g off cap (P.cellsOf e) (fun i j => cv ((l.map (·.2)).getD i []) j) (by omega) hm ht.1.2 (fun e' => by rw [e'] at hes; simp at hes; omega)
            (fun r hr => by
              obtain ⟨asz, has, rfl⟩ := List.mem_map.1 hr
              obtain ⟨i, hi⟩ := List.getElem?_of_mem has
              exact (hlq i asz hi).2.1)
            hlt
            (fun i j hi hj => by
              obtain ⟨asz, ha, e1, e2⟩ := at_ i (by omega)
              have h5 := (hlq i asz ha).2.2.1 j hj
              have h6 := ((hlq i asz ha).2.2.2 j (by rw [(hlq i asz ha).2.1]; exact hj)).2
              rw [Nat.zero_add] at h6
              have e3 : cv ((l.map (·.2)).getD i []) j = cv asz.2 j := congrFun e2 j
              show w.cell? _ = some (cv ((l.map (·.2)).getD i []) j) ∧ (cv ((l.map (·.2)).getD i []) j).oneCell' = true
              rw [e3]
              refine ⟨?_, h6⟩
              rw [← h5]
              congr 1
              simp only [Addr.add]
              split <;> split <;> simp_all <;> omega)
            (fun i j hi hj => by
              obtain ⟨asz, ha, e1, e2⟩ := at_ i (by omega)
              have h6 := ((hlq i asz ha).2.2.2 j (by rw [(hlq i asz ha).2.1]; exact hj)).1
              rw [Nat.zero_add] at h6
              have e3 : cv ((l.map (·.2)).getD i []) j = cv asz.2 j := congrFun e2 j
              show PureV _ w (av ((l.map (·.1)).getD i []) j) (cv ((l.map (·.2)).getD i []) j)
              rw [e1, e3]
              exact h6)
          rw [hes] at hp
          refine ⟨[.sl (l.map (·.1))], ⟨_, rfl, by omega, fun r hr => ?_⟩, rfl, fun j hj => by match j, hj with | 0, _ => exact ⟨hp, rfl⟩⟩
          obtain ⟨asz, has, rfl⟩ := List.mem_map.1 hr
          obtain ⟨i, hi⟩ := List.getElem?_of_mem has
          exact (hlq i asz hi).1
    · rename_i k e hu
      simp only [Bool.and_eq_true, beq_iff_eq] at ht
      obtain ⟨xs, m, _, _, hl, hlen, hf⟩ := DataW.trod_array hu h
      refine ⟨hl, ?_⟩
      obtain ⟨rs, h1, h2, h3, h4⟩ := read_rows (S := Shape P n e) (w := w) (cs := cs) (sz := P.cellsOf e) k 0 fun i hi => by
        have h4 := hf i hi
        obtain ⟨y, hy⟩ : ∃ y, xs[i]? = some y := ⟨_, List.getElem?_eq_getElem (by omega)⟩
        rw [hy] at h4
        obtain ⟨k1, asz, k2, k3, k4⟩ := read_ty n e ht.2 h4
        refine ⟨asz, k2, by omega, fun j hj => ?_⟩
        have := k4 j hj
        rw [Nat.zero_add, cv_piece (by omega)] at this
        rwa [Nat.zero_add]
      exact ⟨rs.flatten, ⟨rs, rfl, h1, h2⟩, by omega, h4⟩
    · simp at ht

/-- A slice among the arguments. -/
theorem arg_slice {t e : TypeId} {r : Reach} {b0 : Nat} {v : Value} {d : DataW H} {p : List MemPlace} (n : Nat) (hu : P.underlying t = some (.slice e)) (ht : readsTy P n t = true)
    (hval : Value.okWide P w r b0 t v) (hd : DataW.Trod enc P w 0 spare held t v d p) : ∃ a, Shape P n t [a] ∧ PureV (fun g => g < w.heap.size ∧ True) w a v := by
  obtain ⟨fuel, h⟩ := hd
  obtain ⟨a0, len, cap, rfl⟩ := okWide_slice hu hval
  obtain ⟨_, asz, h1, h2, h3⟩ := read_ty n t ht h
  match asz, h2 with
  | [a], _ =>
  exact ⟨a, h1, (h3 0 (by simp)).1.mono fun g hg => ⟨⟨hg, trivial⟩, rfl⟩⟩

end

/-- The cells that a datum lays. -/
def laidVals : Nat → DataW Unit → List Value
  | 0, _ => []
  | _ + 1, .lit (.int k n) => [.int k n]
  | _ + 1, .lit (.bool b) => [.bool b]
  | _ + 1, .lit (.string s) => [.string ⟨s.toArray⟩]
  | n + 1, .agg xs => xs.flatMap (laidVals n)
  | _ + 1, _ => []

theorem map_shape {α : Type} {f : α → List AV} : ∀ {es : List (List AV)}, (∀ r ∈ es, ∃ x : α, r = f x) → ∃ l : List α, es = l.map f
  | [], _ => ⟨[], rfl⟩
  | r :: es, h => by
    obtain ⟨x, rfl⟩ := h r (List.mem_cons.2 (.inl rfl))
    obtain ⟨l, rfl⟩ := map_shape (es := es) fun q hq => h q (List.mem_cons.2 (.inr hq))
    exact ⟨x :: l, rfl⟩
end Go.Ab
namespace Go.Proofs
open Go Go.Ab Go.ChangeShapes Go.WideShapes Go.ChangeAt Go.RowKit
set_option maxRecDepth 100000
theorem rest_laid : laidOutB Tryz.prog = true := by kernel_rfl
theorem rest_own : ownKnob Tryz.prog.godebug = none := by kernel_rfl
theorem shape_bay {qs : List AV} (h : Shape Tryz.prog 2 50 qs) : ∃ x : By, AV.agg qs = x.av := by
  unfold Shape at h
  rw [Tryz.underlying50] at h
  simp only [List.map_cons, List.map_nil, FieldsShape] at h
  obtain ⟨_, _, rfl, h0, _, _, rfl, h1, _, _, rfl, h2, rfl⟩ := h
  unfold Shape at h0 h1 h2
  simp only [Tryz.underlying3, Tryz.underlying9] at h0 h1 h2
  obtain ⟨x0, rfl, _⟩ := h0
  obtain ⟨x1, rfl, _⟩ := h1
  obtain ⟨x2, rfl, _⟩ := h2
  exact ⟨⟨x0, x1, x2⟩, rfl⟩
theorem shape_sty {qs : List AV} (h : Shape Tryz.prog 3 48 qs) : ∃ x : Sty, AV.agg qs = x.av := by
  unfold Shape at h
  rw [Tryz.underlying48] at h
  simp only [List.map_cons, List.map_nil, FieldsShape] at h
  obtain ⟨_, _, rfl, h0, _, _, rfl, h1, _, _, rfl, h2, _, _, rfl, h3, _, _, rfl, h4, _, _, rfl, h5, rfl⟩ := h
  unfold Shape at h0 h1 h2 h3 h4 h5
  simp only [Tryz.underlying3, Tryz.underlying9, Tryz.underlying44, Tryz.underlying46, List.map_cons, List.map_nil, FieldsShape] at h0 h1 h2 h3 h4 h5
  obtain ⟨_, _, rfl, h20, _, _, rfl, h21, rfl⟩ := h2
  obtain ⟨_, _, rfl, h50, _, _, rfl, h51, rfl⟩ := h5
  unfold Shape at h20 h21 h50 h51
  simp only [Tryz.underlying3] at h20 h21 h50 h51
  obtain ⟨x0, rfl, _⟩ := h0
  obtain ⟨x1, rfl, _⟩ := h1
  obtain ⟨x2, rfl, _⟩ := h20
  obtain ⟨x3, rfl, _⟩ := h21
  obtain ⟨x4, rfl, _⟩ := h3
  obtain ⟨x5, rfl, _⟩ := h4
  obtain ⟨x6, rfl, _⟩ := h50
  obtain ⟨x7, rfl, _⟩ := h51
  exact ⟨⟨x0, x1, x2, x3, x4, x5, x6, x7⟩, rfl⟩
theorem shape_bys {qs : List AV} (h : Shape Tryz.prog 3 33 qs) : ∃ l : List By, qs = [.sl (bys l)] := by
  unfold Shape at h
  rw [Tryz.underlying33] at h
  obtain ⟨es, rfl, _, he⟩ := h
  obtain ⟨l, rfl⟩ := map_shape (f := By.cells) fun q hq => by
    obtain ⟨x, hx⟩ := shape_bay (he q hq)
    refine ⟨x, ?_⟩
    have : AV.agg q = .agg x.cells := hx
    injection this
  exact ⟨l, rfl⟩
theorem shape_stys {qs : List AV} (h : Shape Tryz.prog 4 35 qs) : ∃ l : List Sty, qs = [.sl (stys l)] := by
  unfold Shape at h
  rw [Tryz.underlying35] at h
  obtain ⟨es, rfl, _, he⟩ := h
  obtain ⟨l, rfl⟩ := map_shape (f := Sty.cells) fun q hq => by
    obtain ⟨x, hx⟩ := shape_sty (he q hq)
    refine ⟨x, ?_⟩
    have : AV.agg q = .agg x.cells := hx
    injection this
  exact ⟨l, rfl⟩
theorem shape_strs {qs : List AV} (h : Shape Tryz.prog 2 25 qs) : ∃ l : List ByteArray, qs = [.sl (strs l)] := by
  unfold Shape at h
  rw [Tryz.underlying25] at h
  obtain ⟨es, rfl, _, he⟩ := h
  obtain ⟨l, rfl⟩ := map_shape (f := fun s : ByteArray => [AV.v (.string s)]) fun q hq => by
    have h1 := he q hq
    unfold Shape at h1
    simp only [Tryz.underlying9] at h1
    obtain ⟨x0, rfl, _⟩ := h1
    exact ⟨x0, rfl⟩
  exact ⟨l, rfl⟩
theorem shape_wk {qs : List AV} (h : Shape Tryz.prog 3 53 qs) : ∃ x : Wk, AV.agg qs = x.av := by
  unfold Shape at h
  rw [Tryz.underlying53] at h
  simp only [List.map_cons, List.map_nil, FieldsShape] at h
  obtain ⟨_, _, rfl, h0, _, _, rfl, h1, _, _, rfl, h2, _, _, rfl, h3, _, _, rfl, h4, rfl⟩ := h
  obtain ⟨l, rfl⟩ := shape_strs h4
  unfold Shape at h0 h1 h2 h3
  simp only [Tryz.underlying9, Tryz.underlying3] at h0 h1 h2 h3
  obtain ⟨x0, rfl, _⟩ := h0
  obtain ⟨x1, rfl, _⟩ := h1
  obtain ⟨x2, rfl, _⟩ := h2
  obtain ⟨x3, rfl, _⟩ := h3
  exact ⟨⟨x0, x1, x2, x3, l⟩, rfl⟩
theorem shape_wks {qs : List AV} (h : Shape Tryz.prog 4 22 qs) : ∃ l : List Wk, qs = [.sl (wks l)] := by
  unfold Shape at h
  rw [Tryz.underlying22] at h
  obtain ⟨es, rfl, _, he⟩ := h
  obtain ⟨l, rfl⟩ := map_shape (f := Wk.cells) fun q hq => by
    obtain ⟨x, hx⟩ := shape_wk (he q hq)
    refine ⟨x, ?_⟩
    have : AV.agg q = .agg x.cells := hx
    injection this
  exact ⟨l, rfl⟩
section
variable {H : Type} {enc : TypeId × Value → H} {w : World} {spare : Nat → Bool} {held : Bool} {r : Reach} {b0 : Nat} {v : Value} {d : DataW H} {p : List MemPlace}
theorem arg_wks (hval : Value.okWide Tryz.prog w r b0 22 v) (hd : DataW.Trod enc Tryz.prog w 0 spare held 22 v d p) : ∃ l : List Wk, PureV (fun g => g < w.heap.size ∧ True) w (.sl (wks l)) v := by
  obtain ⟨a, hs, hp⟩ := arg_slice 4 Tryz.underlying22 (by kernel_rfl) hval hd
  obtain ⟨l, e⟩ := shape_wks hs
  obtain rfl : a = .sl (wks l) := by simpa using e
  exact ⟨l, hp⟩
theorem arg_bys (hval : Value.okWide Tryz.prog w r b0 33 v) (hd : DataW.Trod enc Tryz.prog w 0 spare held 33 v d p) : ∃ l : List By, PureV (fun g => g < w.heap.size ∧ True) w (.sl (bys l)) v := by
  obtain ⟨a, hs, hp⟩ := arg_slice 3 Tryz.underlying33 (by kernel_rfl) hval hd
  obtain ⟨l, e⟩ := shape_bys hs
  obtain rfl : a = .sl (bys l) := by simpa using e
  exact ⟨l, hp⟩
theorem arg_stys (hval : Value.okWide Tryz.prog w r b0 35 v) (hd : DataW.Trod enc Tryz.prog w 0 spare held 35 v d p) : ∃ l : List Sty, PureV (fun g => g < w.heap.size ∧ True) w (.sl (stys l)) v := by
  obtain ⟨a, hs, hp⟩ := arg_slice 4 Tryz.underlying35 (by kernel_rfl) hval hd
  obtain ⟨l, e⟩ := shape_stys hs
  obtain rfl : a = .sl (stys l) := by simpa using e
  exact ⟨l, hp⟩
end
open YtnpaijljdkpiiaaGreatDoor in
/-- The settled world, the two tables of unicode/utf8 as their initialisers lay them. -/
noncomputable def laidWorld (os : Os) : World :=
  let w0 := World.holding Tryz.prog os ⟨#[], #[], []⟩
  let put (h : Array Obj) (g : Nat) (cs : Array Value) : Array Obj := h.modify g fun
    | .cells _ t frozen => .cells cs t frozen
    | o => o
  let h1 := put w0.heap 1 (laidVals 9 Rows.laid_unicode_utf8_first).toArray
  let h2 := put h1 2 (laidVals 9 (Rows.laid_unicode_utf8_acceptRanges (H := Unit))).toArray
  { w0 with heap := h2 }
open YtnpaijljdkpiiaaGreatDoor in
theorem laid_met0 (os : Os) (args : Array Value) : laidMet Tryz.prog Rows.shopOrdersRow.laid ((laidWorld os).forCall (fun _ _ => 0) ⟨#[], args, []⟩).memory :=
  laidMet_of_run' 8 (by kernel_rfl) (by kernel_rfl)
end Go.Proofs
