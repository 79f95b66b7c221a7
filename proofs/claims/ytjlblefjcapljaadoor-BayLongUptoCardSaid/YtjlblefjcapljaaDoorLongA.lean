import Derived.Test.YtjlblefjcapljaaDoorWalkG
import Derived.Test.YtjlblefjcapljaaDoorPlanA
section
set_option linter.unusedVariables false
set_option linter.unusedSimpArgs false
namespace Go.Proofs
open Go Go.Ab
set_option maxHeartbeats 4000000
set_option maxRecDepth 100000
set_option linter.unusedSimpArgs false
set_option linter.unusedVariables false
attribute [local irreducible] Awp aops aopsL Go.Ab.Pure PureOwn
theorem parts_big (s : ByteArray) (hs : s.size < 2000000) : PureOwn Tryd.prog 29 [.v (.string s)] (strs (parts s)) 1 9 := by
  refine fn_own Tryd.F29 (Nat.le_of_ble_eq_true rfl) ?_; unfold Tryd.ac29
  repeat' (first
    | (apply Awp.sreg; (case hn => (simp only [List.length_cons, List.length_nil, Nat.reduceAdd] <;> rfl)))
    | (refine st_nil ?_)
    | (apply st_a; (case hc => rfl); (case he => (simp only [go_sem, *] <;> rfl)); (case hu => (simp only [updL_nil, updL_cons] <;> rfl)); (case hp => first | trivial | assumption | omega | (simp; done) | (simp; omega) | (simp [*]; done) | ((repeat' (refine And.intro ?_ ?_)) <;> first | trivial | assumption | omega | (simp; done) | (simp; omega) | (simp [*]; done))))
    | refine Awp.block ?_
    | refine Awp.seq ?_)
  · refine Awp.loop (fun x : Nat × Nat × List ByteArray => x.1 ≤ s.size + 1 ∧ x.2.1 ≤ x.1 ∧ x.2.2.length ≤ x.1 ∧ x.2.2 ++ parF s (s.size + 1 - x.1) x.1 x.2.1 = parts s) 20
      (fun x => mkS [(0, .v (.string s)), (3, .own 0), (4, .v (.int .i64 x.2.1)), (5, .v (.int .i64 x.1))] [(0, .row (strs x.2.2) 1 9)]) (fun x => s.size + 1 - x.1) (0, 0, []) (by simp [parts]) ?_ ?_
    · refine Ghost.trans (Ghost.name 3 1 9 rfl (by decide)) ?_
      (apply Ghost.mk [(0, 4)] []; (case hdead => rfl); (case hinj => rfl); (case hV => (simp only [go_sem, *]) <;> (repeat' (first | refine And.intro ?_ ?_ | exact View.int (by first | rfl | omega | (simp; done) | (rw [wrap_i64] <;> (try simp only [Int.natCast_add]) <;> omega) | (simp [*]; done)) | exact .own rfl (by decide)))); (case hB => (simp only [go_sem, *]) <;> (repeat' (first | exact ⟨_, rfl, .rowE (by first | rfl | omega | (simp; done) | (rw [wrap_i64] <;> (try simp only [Int.natCast_add]) <;> omega) | (simp [*]; done))⟩))))
    · intro ⟨i, fr, out⟩ ⟨h1, h2, h3, h4⟩
      dsimp only at h1 h2 h3 h4 ⊢
      repeat' (first
    | (apply Awp.sreg; (case hn => (simp only [List.length_cons, List.length_nil, Nat.reduceAdd] <;> rfl)))
    | (refine st_nil ?_)
    | (apply st_a; (case hc => rfl); (case he => (simp only [go_sem, *] <;> rfl)); (case hu => (simp only [updL_nil, updL_cons] <;> rfl)); (case hp => first | trivial | assumption | omega | (simp; done) | (simp; omega) | (simp [*]; done) | ((repeat' (refine And.intro ?_ ?_)) <;> first | trivial | assumption | omega | (simp; done) | (simp; omega) | (simp [*]; done))))
    | (apply st_m; (case hc => rfl); (case hg => (simp only [go_sem, *] <;> rfl)); (case he => (intro hQz; (try simp only [wantB_t, wantB_f, Bool.and_eq_true, Bool.not_eq_true', Bool.not_true, Bool.not_false, and_true, true_and] at hQz); simp only [go_sem, *] <;> rfl)); (case hp => (intro hQz; (try simp only [wantB_t, wantB_f, Bool.and_eq_true, Bool.not_eq_true', Bool.or_eq_false_iff, decide_eq_true_eq, decide_eq_false_iff_not, beq_iff_eq, beq_eq_false_iff_ne, bne_iff_ne, bne_eq_false_iff_eq, Int.not_lt, Int.not_le, Int.ofNat_lt, Int.ofNat_le] at hQz); first | trivial | assumption | omega | (simp; done) | (simp; omega) | (simp [*]; done) | ((repeat' (refine And.intro ?_ ?_)) <;> first | trivial | assumption | omega | (simp; done) | (simp; omega) | (simp [*]; done)))))
    | (apply Awp.reg; (case hn => (simp only [List.length_cons, List.length_nil, Nat.reduceAdd] <;> rfl)))
    | (refine Awp.ret ?_; try simp only [go_sem, *])
    | (refine Awp.skip ?_; try simp only [go_sem, *])
    | (refine Awp.exit ?_; try simp only [go_sem, *])
    | refine Awp.block ?_
    | (apply Awp.cond; (case hc => (simp only [go_sem, *] <;> rfl)); all_goals (intro hg; (try simp only [Bool.not_true, Bool.not_false, reduceCtorEq] at hg); (try have hg' := hg); (try simp only [decide_eq_true_eq, decide_eq_false_iff_not, Bool.and_eq_true, Bool.or_eq_false_iff, bne_iff_ne, bne_eq_false_iff_eq, beq_iff_eq, beq_eq_false_iff_ne, Int.not_lt, Int.not_le, Int.ofNat_lt, Int.ofNat_le, Int.natCast_inj] at hg')))
    | refine Awp.seq ?_)
      · refine ⟨(i + 1, i + 1, out ++ [s.extract fr i]), ⟨by dsimp only; omega, by dsimp only; omega, by simp; omega, ?_⟩, by dsimp only; omega, ?_⟩
        · dsimp only
          rw [← h4, show s.size + 1 - i = s.size + 1 - (i + 1) + 1 by omega, parF, if_pos hg]
          simp
        · (apply Ghost.mk [(0, 40)] []; (case hdead => rfl); (case hinj => rfl); (case hV => (simp only [go_sem, *]) <;> (repeat' (first | refine And.intro ?_ ?_ | exact View.int (by first | rfl | exact strs_snoc _ _ | omega | (simp; done) | (rw [wrap_i64] <;> (try simp only [Int.natCast_add]) <;> omega) | (simp [*]; done)) | exact .own rfl (by decide)))); (case hB => (simp only [go_sem, *]) <;> (repeat' (first | exact ⟨_, rfl, .rowE (by first | rfl | exact strs_snoc _ _ | omega | (simp; done) | (rw [wrap_i64] <;> (try simp only [Int.natCast_add]) <;> omega) | (simp [*]; done))⟩))))
      · refine ⟨(i + 1, fr, out), ⟨by dsimp only; omega, by dsimp only; omega, by dsimp only; omega, ?_⟩, by dsimp only; omega, ?_⟩
        · dsimp only
          rw [← h4, show s.size + 1 - i = s.size + 1 - (i + 1) + 1 by omega, parF, if_neg (by rw [hg]; decide)]
        · (apply Ghost.mk [] []; (case hdead => rfl); (case hinj => rfl); (case hV => (simp only [go_sem, *]) <;> (repeat' (first | refine And.intro ?_ ?_ | exact View.int (by first | rfl | omega | (simp; done) | (rw [wrap_i64] <;> (try simp only [Int.natCast_add]) <;> omega) | (simp [*]; done)) | exact .own rfl (by decide)))); (case hB => (simp only [go_sem, *]) <;> (repeat' (first | exact ⟨_, rfl, .rowE (by first | rfl | omega | (simp; done) | (rw [wrap_i64] <;> (try simp only [Int.natCast_add]) <;> omega) | (simp [*]; done))⟩))))
      · refine ⟨0, rfl, ?_⟩
        have : s.size + 1 - i = 0 := by omega
        rw [this, parF, List.append_nil] at h4
        rw [← h4]
        rfl
theorem risid_big (s : ByteArray) (hs : s.size < 2000000) : Pure Tryd.prog 16 [.v (.string s)] (.v (.bool (idB s))) := by
  have h1 := parts_sizes s
  refine fn_pure Tryd.F16 (Nat.le_of_ble_eq_true rfl) ?_; unfold Tryd.ac16
  repeat' (first
    | (apply Awp.sreg; (case hn => (simp only [List.length_cons, List.length_nil, Nat.reduceAdd] <;> rfl)))
    | (refine st_nil ?_)
    | (apply st_a; (case hc => rfl); (case he => (simp only [go_sem, *] <;> rfl)); (case hu => (simp only [updL_nil, updL_cons] <;> rfl)); (case hp => first | trivial | assumption | omega | (simp; done) | (simp; omega) | (simp [*]; done) | ((repeat' (refine And.intro ?_ ?_)) <;> first | trivial | assumption | omega | (simp; done) | (simp; omega) | (simp [*]; done))))
    | (apply st_m; (case hc => rfl); (case hg => (simp only [go_sem, *] <;> rfl)); (case he => (intro hQz; (try simp only [wantB_t, wantB_f, Bool.and_eq_true, Bool.not_eq_true', Bool.not_true, Bool.not_false, and_true, true_and] at hQz); simp only [go_sem, *] <;> rfl)); (case hp => (intro hQz; (try simp only [wantB_t, wantB_f, Bool.and_eq_true, Bool.not_eq_true', Bool.or_eq_false_iff, decide_eq_true_eq, decide_eq_false_iff_not, beq_iff_eq, beq_eq_false_iff_ne, bne_iff_ne, bne_eq_false_iff_eq, Int.not_lt, Int.not_le, Int.ofNat_lt, Int.ofNat_le] at hQz); first | trivial | assumption | omega | (simp; done) | (simp; omega) | (simp [*]; done) | ((repeat' (refine And.intro ?_ ?_)) <;> first | trivial | assumption | omega | (simp; done) | (simp; omega) | (simp [*]; done)))))
    | (apply st_co; (case hc => (simp only [go_sem, *] <;> rfl)); (case hl => (simp only [go_sem, *] <;> rfl)); (case hn => (simp only [go_sem, *] <;> rfl)); (case hp => first | exact parts_big s hs | (have hXz := parts_big s hs; simp only [go_sem, *] at hXz; exact hXz)))
    | (refine Awp.ret ?_; try simp only [go_sem, *])
    | (refine Awp.skip ?_; try simp only [go_sem, *])
    | refine Awp.block ?_
    | (apply Awp.cond; (case hc => (simp only [go_sem, *] <;> rfl)); all_goals (intro hg; (try simp only [Bool.not_true, Bool.not_false, reduceCtorEq] at hg); (try have hg' := hg); (try simp only [decide_eq_true_eq, decide_eq_false_iff_not, Bool.and_eq_true, Bool.or_eq_false_iff, bne_iff_ne, bne_eq_false_iff_eq, beq_iff_eq, beq_eq_false_iff_ne, Int.not_lt, Int.not_le, Int.ofNat_lt, Int.ofNat_le, Int.natCast_inj] at hg')))
    | refine Awp.seq ?_)
  · refine Lower.bool ?_
    simp only [Bool.or_eq_true, decide_eq_true_eq] at hg
    unfold idB
    symm
    rw [Bool.eq_false_iff]
    simp only [ne_eq, Bool.and_eq_true, decide_eq_true_eq]
    omega
  · have h0 := hg'
    refine Awp.loop (fun i : Nat => i ≤ (parts s).length ∧ ∀ j, j < i → nameB ((parts s).getD j ⟨#[]⟩) = true) 3 (fun i => mkS [(3, .own 2), (4, .v (.int .i64 i))] [(2, .row (strs (parts s)) 1 9)]) (fun i => (parts s).length - i) 0 (by simp) ?_ ?_
    · (apply Ghost.mk [] []; (case hdead => rfl); (case hinj => rfl); (case hV => (simp only [go_sem, *]) <;> (repeat' (first | refine And.intro ?_ ?_ | exact View.int (by first | rfl | omega | (simp; done) | (rw [wrap_i64] <;> (try simp only [Int.natCast_add]) <;> omega) | (simp [*]; done)) | exact .own rfl (by decide)))); (case hB => (simp only [go_sem, *]) <;> (repeat' (first | exact ⟨_, rfl, .rowE (by first | rfl | omega | (simp; done) | (rw [wrap_i64] <;> (try simp only [Int.natCast_add]) <;> omega) | (simp [*]; done))⟩))))
    · intro i ⟨hi, hj⟩
      by_cases hlt : i < (parts s).length
      · have hlt' : (i : Int) < (parts s).length := by omega
        repeat' (first
    | (apply Awp.sreg; (case hn => (simp only [List.length_cons, List.length_nil, Nat.reduceAdd] <;> rfl)))
    | (refine st_nil ?_)
    | (apply st_a; (case hc => rfl); (case he => (simp only [go_sem, *] <;> rfl)); (case hu => (simp only [updL_nil, updL_cons] <;> rfl)); (case hp => first | trivial | assumption | omega | (simp; done) | (simp; omega) | (simp [*]; done) | ((repeat' (refine And.intro ?_ ?_)) <;> first | trivial | assumption | omega | (simp; done) | (simp; omega) | (simp [*]; done))))
    | (apply st_c; (case hc => (simp only [go_sem, *] <;> rfl)); (case hl => (simp only [go_sem, *] <;> rfl)); (case hn => (simp only [go_sem, *] <;> rfl)); (case hp => first | exact rname_ok _ | (have hXz := rname_ok _; simp only [go_sem, *] at hXz; exact hXz)))
    | (apply Awp.reg; (case hn => (simp only [List.length_cons, List.length_nil, Nat.reduceAdd] <;> rfl)))
    | (refine Awp.ret ?_; try simp only [go_sem, *])
    | (refine Awp.skip ?_; try simp only [go_sem, *])
    | refine Awp.block ?_
    | (apply Awp.cond; (case hc => (simp only [go_sem, *] <;> rfl)); all_goals (intro hg; (try simp only [Bool.not_true, Bool.not_false, reduceCtorEq] at hg); (try have hg' := hg); (try simp only [decide_eq_true_eq, decide_eq_false_iff_not, Bool.and_eq_true, Bool.or_eq_false_iff, bne_iff_ne, bne_eq_false_iff_eq, beq_iff_eq, beq_eq_false_iff_ne, Int.not_lt, Int.not_le, Int.ofNat_lt, Int.ofNat_le, Int.natCast_inj] at hg')))
    | refine Awp.seq ?_)
        · exact Lower.bool (by rw [idB, all_bad hlt (by simpa using hg')]; simp)
        · refine ⟨i + 1, ⟨by omega, ltSucc hj (by simpa using hg')⟩, by omega, ?_⟩
          (apply Ghost.mk [] []; (case hdead => rfl); (case hinj => rfl); (case hV => (simp only [go_sem, *]) <;> (repeat' (first | refine And.intro ?_ ?_ | exact View.int (by first | rfl | omega | (simp; done) | (rw [wrap_i64] <;> (try simp only [Int.natCast_add]) <;> omega) | (simp [*]; done)) | exact .own rfl (by decide)))); (case hB => (simp only [go_sem, *]) <;> (repeat' (first | exact ⟨_, rfl, .rowE (by first | rfl | omega | (simp; done) | (rw [wrap_i64] <;> (try simp only [Int.natCast_add]) <;> omega) | (simp [*]; done))⟩))))
      · have hlt' : ¬ (i : Int) < (parts s).length := by omega
        repeat' (first
    | (apply Awp.sreg; (case hn => (simp only [List.length_cons, List.length_nil, Nat.reduceAdd] <;> rfl)))
    | (refine st_nil ?_)
    | (apply st_a; (case hc => rfl); (case he => (simp only [go_sem, *] <;> rfl)); (case hu => (simp only [updL_nil, updL_cons] <;> rfl)); (case hp => first | trivial | assumption | omega | (simp; done) | (simp; omega) | (simp [*]; done) | ((repeat' (refine And.intro ?_ ?_)) <;> first | trivial | assumption | omega | (simp; done) | (simp; omega) | (simp [*]; done))))
    | (refine Awp.ret ?_; try simp only [go_sem, *])
    | (refine Awp.exit ?_; try simp only [go_sem, *])
    | (apply Awp.cond; (case hc => (simp only [go_sem, *] <;> rfl)); all_goals (intro hg; (try simp only [Bool.not_true, Bool.not_false, reduceCtorEq] at hg); (try have hg' := hg); (try simp only [decide_eq_true_eq, decide_eq_false_iff_not, Bool.and_eq_true, Bool.or_eq_false_iff, bne_iff_ne, bne_eq_false_iff_eq, beq_iff_eq, beq_eq_false_iff_ne, Int.not_lt, Int.not_le, Int.ofNat_lt, Int.ofNat_le, Int.natCast_inj] at hg')))
    | refine Awp.seq ?_)
        all_goals refine Lower.bool ?_
        all_goals rw [idB, all_end hj (by omega)]
        all_goals simp
        all_goals omega
end Go.Proofs
end
section
set_option linter.unusedVariables false
set_option linter.unusedSimpArgs false
namespace Go.Proofs
open Go Go.Ab
set_option linter.unusedSimpArgs false
set_option linter.unusedVariables false
/-- A fact that simp leaves alone. -/
def Kept (p : Prop) : Prop := p
theorem Kept.out {p : Prop} (h : Kept p) : p := h
def fullAt (nm : ByteArray) (k : Nat) : Sty := ⟨sI, nm, k, 0, 1, 1, 3, 4⟩
def fullL (nm : ByteArray) (n : Nat) : List Sty := (List.range n).map (fullAt nm)
theorem fullL_len (nm : ByteArray) (n : Nat) : (fullL nm n).length = n := by simp [fullL]
theorem fullL_step (nm : ByteArray) (n : Nat) : fullL nm (n + 1) = fullL nm n ++ [fullAt nm n] := by simp [fullL, List.range_succ]
theorem first_find {bs : List By} (h : 0 < bs.length) : findB bs (bs.getD 0 zeroBy).nm = (bs.getD 0 zeroBy, true) := by
  have hx := idxF_in (p := fun q : By => q.nm.toList == (bs.getD 0 zeroBy).nm.toList) (d := zeroBy) h (by simp) (fun j hj => by omega)
  unfold findB
  rw [hx, if_neg (by simp)]
  rfl
theorem full_good {bs : List By} (hb : baysOk bs) (h0 : 0 < bs.length) (hl : 128 ≤ (bs.getD 0 zeroBy).len) {k : Nat} (hk : k < 128) : good bs (fullAt (bs.getD 0 zeroBy).nm k) = true := by
  have hf := first_find h0
  have hw := bay_wid hb (nm := (bs.getD 0 zeroBy).nm) (by rw [hf])
  rw [hf] at hw
  dsimp only at hw
  refine (good_iff hb).2 ⟨(by show idB sI = true; kernel_rfl), by show (findB bs (bs.getD 0 zeroBy).nm).2 = true; rw [hf], ?_⟩
  show _ ∧ _ ∧ _ ∧ _ ∧ _ ∧ _ ∧ _ ≤ (findB bs (bs.getD 0 zeroBy).nm).1.len ∧ _ ≤ (findB bs (bs.getD 0 zeroBy).nm).1.wid ∧ _
  rw [hf]
  unfold fullAt
  dsimp only
  omega
theorem full_check {bs : List By} (hb : baysOk bs) (h0 : 0 < bs.length) (hl : 128 ≤ (bs.getD 0 zeroBy).len) : checkE bs (fullL (bs.getD 0 zeroBy).nm 128) = 0 := by
  rw [checkE_iff]
  refine ⟨hb, by rw [fullL_len]; omega, fun x hx => ?_, ?_⟩
  · obtain ⟨k, hk, rfl⟩ := List.mem_map.1 hx
    exact full_good hb h0 hl (by simpa using hk)
  · unfold fullL
    rw [List.pairwise_map]
    refine List.pairwise_iff_getElem.2 fun i j hi hj hij => ?_
    simp only [List.getElem_range]
    simp only [List.length_range] at hi hj
    unfold apart
    rw [Bool.eq_false_iff]
    intro ho
    have := (over_iff hb (full_good hb h0 hl hi) (full_good hb h0 hl hj)).1 ho
    unfold fullAt at this
    dsimp only at this
    omega
theorem long_full {bs : List By} {x : Sty} (hb : baysOk bs) (h0 : 0 < bs.length) (hl : 128 ≤ (bs.getD 0 zeroBy).len) (hi : idB x.item = true) (h1 : x.len = 1) (h2 : x.wid = 1) (h3 : 0 ≤ x.a) (h4 : x.a ≤ 1048576) :
    fitE bs (fullL (bs.getD 0 zeroBy).nm 128) x 1 = (zeroSty, 12) := by
  have hr : fitR x 1 = false := by unfold fitR sideB; simp; omega
  unfold fitE
  rw [if_neg (by rw [full_check hb h0 hl]; simp), if_neg (by rw [hi]; simp), if_neg (by rw [hr]; simp), if_pos (by rw [fullL_len]; simp)]
theorem long_rest {bs : List By} {x : Sty} (hb : baysOk bs) (h0 : 0 < bs.length) (hl : 128 ≤ (bs.getD 0 zeroBy).len) (hi : idB x.item = true) (h1 : x.len = 1) (h2 : x.wid = 1) (h3 : 0 ≤ x.a) (h4 : x.a ≤ 1048576) :
    (∃ y, fitE bs ((fullL (bs.getD 0 zeroBy).nm 128).drop 1) x 1 = (y, 0) ∧ checkE bs ((fullL (bs.getD 0 zeroBy).nm 128).drop 1 ++ [y]) = 0) ∨ (fitE bs ((fullL (bs.getD 0 zeroBy).nm 128).drop 1) x 1 = (zeroSty, 18) ∧ x.a = 1048576) := by
  have hr : fitR x 1 = false := by unfold fitR sideB; simp; omega
  have hC := check_sub (full_check hb h0 hl) (List.drop_sublist 1 _)
  have hlen : ((fullL (bs.getD 0 zeroBy).nm 128).drop 1).length = 127 := by rw [List.length_drop, fullL_len]
  have hmem : ∀ q ∈ (fullL (bs.getD 0 zeroBy).nm 128).drop 1, ∃ k : Nat, 1 ≤ k ∧ k < 128 ∧ q = fullAt (bs.getD 0 zeroBy).nm k := by
    intro q hq
    obtain ⟨i, hi, rfl⟩ := List.getElem_of_mem hq
    rw [hlen] at hi
    refine ⟨i + 1, by omega, by omega, ?_⟩
    simp [fullL, Nat.add_comm]
  generalize (fullL (bs.getD 0 zeroBy).nm 128).drop 1 = L at *
  have e : fitE bs L x 1 = match fitS bs L x 1 with
    | some y => (y, 0)
    | none => (zeroSty, 18) := by
    conv => lhs; unfold fitE
    rw [if_neg (by rw [hC]; simp), if_neg (by rw [hi]; simp), if_neg (by rw [hr]; simp), if_neg (by rw [hlen]; simp)]
    cases fitS bs L x 1 <;> rfl
  cases hs : fitS bs L x 1 with
  | some y =>
    left
    rw [hs] at e
    obtain ⟨t, q, X, Y, ht, hq, ey, hst⟩ := fit_sound hs
    exact ⟨y, e, check_add hC (by omega) hst⟩
  | none =>
    right
    rw [hs] at e
    refine ⟨e, ?_⟩
    by_cases ha : x.a = 1048576
    · exact ha
    · exfalso
      have hf := first_find h0
      have hw := bay_wid hb (nm := (bs.getD 0 zeroBy).nm) (by rw [hf])
      have hw1 : IntKind.i64.wrap (x.a + 1) = x.a + 1 := wrap_i64 (by omega) (by omega)
      have hg : good bs ((x.when (bs.getD 0 zeroBy).nm x.a (IntKind.i64.wrap (x.a + 1))).at_ 0 0) = true := by
        refine (good_iff hb).2 ⟨hi, by show (findB bs (bs.getD 0 zeroBy).nm).2 = true; rw [hf], ?_⟩
        show _ ∧ _ ∧ _ ∧ _ ∧ _ ∧ _ ∧ _ ≤ (findB bs (bs.getD 0 zeroBy).nm).1.len ∧ _ ≤ (findB bs (bs.getD 0 zeroBy).nm).1.wid ∧ _
        rw [hf] at hw ⊢
        unfold Sty.at_ Sty.when
        dsimp only at hw ⊢
        omega
      have hst : stayE bs L ((x.when (bs.getD 0 zeroBy).nm x.a (IntKind.i64.wrap (x.a + 1))).at_ 0 0) = 0 := by
        rw [stayE_zero]
        refine ⟨hg, fun q hq => ?_⟩
        obtain ⟨k, k1, k2, rfl⟩ := hmem q hq
        rw [Bool.eq_false_iff]
        intro ho
        have := (over_iff hb hg (full_good hb h0 hl k2)).1 ho
        unfold Sty.at_ Sty.when fullAt at this
        dsimp only at this
        omega
      obtain ⟨y, hy, _⟩ := fit_complete (T := x.a) hC hr (Int.le_refl _) (by omega) hst
      rw [hs] at hy
      cases hy
end Go.Proofs
end
