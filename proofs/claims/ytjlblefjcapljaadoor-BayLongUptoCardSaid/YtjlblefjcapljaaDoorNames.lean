import Derived.Test.YtjlblefjcapljaaDoorCode
import Derived.Test.YtjlblefjcapljaaDoorLayB
import Derived.Test.YtjlblefjcapljaaDoorShelf
import Derived.Sort.OwnSortedInts
section
set_option linter.unusedVariables false
set_option linter.unusedSimpArgs false
namespace Go.Proofs
open Go Go.Ab
set_option maxHeartbeats 1000000
set_option maxRecDepth 100000
set_option linter.unusedSimpArgs false
set_option linter.unusedVariables false
attribute [local irreducible] Awp aops aopsL Go.Ab.Pure PureOwn
def ints (l : List Int) : List (List AV) := l.map fun n => [.v (.int .i64 n)]
theorem ints_len (l : List Int) : (ints l).length = l.length := by simp [ints]
attribute [go_sem] ints_len
@[go_sem] theorem ints_at (l : List Int) (i : Nat) (h : i < l.length) : (ints l).getD i [] = [.v (.int .i64 (l.getD i 0))] := by
  simp [ints, List.getD_eq_getElem?_getD, h]
@[go_sem] theorem neg1 : Int.negSucc 0 = -1 := rfl
end Go.Proofs
end
section
set_option linter.unusedVariables false
set_option linter.unusedSimpArgs false
namespace Go.Proofs
open Go Go.Ab
set_option maxHeartbeats 1000000
set_option maxRecDepth 100000
set_option linter.unusedSimpArgs false
set_option linter.unusedVariables false
attribute [local irreducible] Awp aops aopsL Go.Ab.Pure PureOwn
theorem letter_ok (c : Int) : Pure Tryd.prog 44 [.v (.int .u8 c)] (.v (.bool (decide (97 ≤ c) && decide (c ≤ 122) || decide (65 ≤ c) && decide (c ≤ 90)))) := by
  refine fn_pure Tryd.F44 (Nat.le_of_ble_eq_true rfl) ?_; unfold Tryd.ac44
  repeat' (first
    | (apply Awp.sreg; (case hn => (simp only [List.length_cons, List.length_nil, Nat.reduceAdd] <;> rfl)))
    | (refine st_nil ?_)
    | (apply st_a; (case hc => rfl); (case he => (simp only [go_sem, *] <;> rfl)); (case hu => (simp only [updL_nil, updL_cons] <;> rfl)); (case hp => first | trivial | assumption | omega | (simp; done) | (simp; omega) | (simp [*]; done) | ((repeat' (refine And.intro ?_ ?_)) <;> first | trivial | assumption | omega | (simp; done) | (simp; omega) | (simp [*]; done))))
    | (apply st_m; (case hc => rfl); (case hg => (simp only [go_sem, *] <;> rfl)); (case he => (intro hQz; (try simp only [wantB_t, wantB_f, Bool.and_eq_true, Bool.not_eq_true', Bool.not_true, Bool.not_false, and_true, true_and] at hQz); simp only [go_sem, *] <;> rfl)); (case hp => (intro hQz; (try simp only [wantB_t, wantB_f, Bool.and_eq_true, Bool.not_eq_true', Bool.or_eq_false_iff, decide_eq_true_eq, decide_eq_false_iff_not, beq_iff_eq, beq_eq_false_iff_ne, bne_iff_ne, bne_eq_false_iff_eq, Int.not_lt, Int.not_le, Int.ofNat_lt, Int.ofNat_le] at hQz); first | trivial | assumption | omega | (simp; done) | (simp; omega) | (simp [*]; done) | ((repeat' (refine And.intro ?_ ?_)) <;> first | trivial | assumption | omega | (simp; done) | (simp; omega) | (simp [*]; done)))))
    | (refine Awp.ret ?_; try simp only [go_sem, *]))
  all_goals repeat' (first | exact Lower.bool (by first | rfl | (simp only [true_and, Bool.true_and, Bool.false_and, Bool.and_true, Bool.and_false, Bool.true_or, Bool.false_or, reduceIte, Bool.false_eq_true, *]; done) | (simp only [true_and, reduceIte, Bool.false_eq_true, *] <;> rfl) | (simp [true_and]; done) | (simp_all [true_and]; done) | omega))
theorem digit_ok (c : Int) : Pure Tryd.prog 45 [.v (.int .u8 c)] (.v (.bool (decide (48 ≤ c) && decide (c ≤ 57)))) := by
  refine fn_pure Tryd.F45 (Nat.le_of_ble_eq_true rfl) ?_; unfold Tryd.ac45
  repeat' (first
    | (apply Awp.sreg; (case hn => (simp only [List.length_cons, List.length_nil, Nat.reduceAdd] <;> rfl)))
    | (refine st_nil ?_)
    | (apply st_a; (case hc => rfl); (case he => (simp only [go_sem, *] <;> rfl)); (case hu => (simp only [updL_nil, updL_cons] <;> rfl)); (case hp => first | trivial | assumption | omega | (simp; done) | (simp; omega) | (simp [*]; done) | ((repeat' (refine And.intro ?_ ?_)) <;> first | trivial | assumption | omega | (simp; done) | (simp; omega) | (simp [*]; done))))
    | (apply st_m; (case hc => rfl); (case hg => (simp only [go_sem, *] <;> rfl)); (case he => (intro hQz; (try simp only [wantB_t, wantB_f, Bool.and_eq_true, Bool.not_eq_true', Bool.not_true, Bool.not_false, and_true, true_and] at hQz); simp only [go_sem, *] <;> rfl)); (case hp => (intro hQz; (try simp only [wantB_t, wantB_f, Bool.and_eq_true, Bool.not_eq_true', Bool.or_eq_false_iff, decide_eq_true_eq, decide_eq_false_iff_not, beq_iff_eq, beq_eq_false_iff_ne, bne_iff_ne, bne_eq_false_iff_eq, Int.not_lt, Int.not_le, Int.ofNat_lt, Int.ofNat_le] at hQz); first | trivial | assumption | omega | (simp; done) | (simp; omega) | (simp [*]; done) | ((repeat' (refine And.intro ?_ ?_)) <;> first | trivial | assumption | omega | (simp; done) | (simp; omega) | (simp [*]; done)))))
    | (refine Awp.ret ?_; try simp only [go_sem, *]))
  all_goals repeat' (first | exact Lower.bool (by first | rfl | (simp only [true_and, Bool.true_and, Bool.false_and, Bool.and_true, Bool.and_false, Bool.true_or, Bool.false_or, reduceIte, Bool.false_eq_true, *]; done) | (simp only [true_and, reduceIte, Bool.false_eq_true, *] <;> rfl) | (simp [true_and]; done) | (simp_all [true_and]; done) | omega))
def byteAt (s : ByteArray) (i : Nat) : Int := (s.data.getD i 0).toNat
def letB (c : Int) : Bool := decide (97 ≤ c) && decide (c ≤ 122) || decide (65 ≤ c) && decide (c ≤ 90)
def digB (c : Int) : Bool := decide (48 ≤ c) && decide (c ≤ 57)
def okB (c : Int) : Bool := letB c || digB c || c == 95 || c == 45
def nameB (s : ByteArray) : Bool := !(s.size == 0) && decide (s.size ≤ 16) && letB (byteAt s 0) && (List.range s.size).all fun i => okB (byteAt s i)
theorem byteAt_def (s : ByteArray) (i : Nat) : ((s.data.getD i 0).toNat : Int) = byteAt s i := rfl
attribute [go_sem] byteAt_def
theorem letter2_ok (c : Int) : Pure Tryd.prog 44 [.v (.int .u8 c)] (.v (.bool (letB c))) := letter_ok c
theorem digit2_ok (c : Int) : Pure Tryd.prog 45 [.v (.int .u8 c)] (.v (.bool (digB c))) := digit_ok c
theorem okN (c : Int) : (!letB c && !digB c && c != 95 && c != 45) = !okB c := by
  simp only [okB, Bool.not_or, bne]
theorem nameB_head {s : ByteArray} (h : (s.size == 0 || decide (16 < (s.size : Int)) || !letB (byteAt s 0)) = true) : nameB s = false := by
  simp only [Bool.or_eq_true, beq_iff_eq, decide_eq_true_eq, Bool.not_eq_true'] at h
  rcases h with (h | h) | h
  · simp [nameB, h]
  · have : ¬ s.size ≤ 16 := by omega
    simp [nameB, this]
  · simp [nameB, h]
theorem nameB_bad {s : ByteArray} {i : Nat} (h : i < s.size) (e : okB (byteAt s i) = false) : nameB s = false := by
  have : ((List.range s.size).all fun i => okB (byteAt s i)) = false := by
    simp only [List.all_eq_false, List.mem_range]
    exact ⟨i, h, by simp [e]⟩
  simp [nameB, this]
theorem nameB_end {s : ByteArray} {i : Nat} (h0 : s.size ≠ 0) (h1 : (s.size : Int) ≤ 16) (h2 : letB (byteAt s 0) = true) (h : ∀ j, j < i → okB (byteAt s j) = true) (hi : s.size ≤ i) : nameB s = true := by
  have : ((List.range s.size).all fun i => okB (byteAt s i)) = true := by
    simp only [List.all_eq_true, List.mem_range]
    exact fun j hj => h j (by omega)
  have h3 : s.size ≤ 16 := by omega
  simp [nameB, this, h0, h3, h2]
theorem ltSucc {P : Nat → Prop} {i : Nat} (h : ∀ j, j < i → P j) (hi : P i) : ∀ j, j < i + 1 → P j := fun j hj => by
  rcases Nat.lt_succ_iff_lt_or_eq.1 hj with h' | rfl
  · exact h j h'
  · exact hi
theorem rname_ok (s : ByteArray) : Pure Tryd.prog 30 [.v (.string s)] (.v (.bool (nameB s))) := by
  refine fn_pure Tryd.F30 (Nat.le_of_ble_eq_true rfl) ?_; unfold Tryd.ac30
  repeat' (first
    | (apply Awp.sreg; (case hn => (simp only [List.length_cons, List.length_nil, Nat.reduceAdd] <;> rfl)))
    | (refine st_nil ?_)
    | (apply st_a; (case hc => rfl); (case he => (simp only [go_sem, *] <;> rfl)); (case hu => (simp only [updL_nil, updL_cons] <;> rfl)); (case hp => first | trivial | assumption | omega | (simp; done) | (simp; omega) | (simp [*]; done) | ((repeat' (refine And.intro ?_ ?_)) <;> first | trivial | assumption | omega | (simp; done) | (simp; omega) | (simp [*]; done))))
    | (apply st_m; (case hc => rfl); (case hg => (simp only [go_sem, *] <;> rfl)); (case he => (intro hQz; (try simp only [wantB_t, wantB_f, Bool.and_eq_true, Bool.not_eq_true', Bool.not_true, Bool.not_false, and_true, true_and] at hQz); simp only [go_sem, *] <;> rfl)); (case hp => (intro hQz; (try simp only [wantB_t, wantB_f, Bool.and_eq_true, Bool.not_eq_true', Bool.or_eq_false_iff, decide_eq_true_eq, decide_eq_false_iff_not, beq_iff_eq, beq_eq_false_iff_ne, bne_iff_ne, bne_eq_false_iff_eq, Int.not_lt, Int.not_le, Int.ofNat_lt, Int.ofNat_le] at hQz); first | trivial | assumption | omega | (simp; done) | (simp; omega) | (simp [*]; done) | ((repeat' (refine And.intro ?_ ?_)) <;> first | trivial | assumption | omega | (simp; done) | (simp; omega) | (simp [*]; done)))))
    | (apply st_mc; (case hop => rfl); (case hg => (simp only [go_sem, *] <;> rfl)); (case hc => (intro hQz; (try simp only [wantB_t, wantB_f, Bool.and_eq_true, Bool.not_eq_true', Bool.not_true, Bool.not_false, and_true, true_and] at hQz); simp only [go_sem, *] <;> rfl)); (case hl => (intro hQz; (try simp only [wantB_t, wantB_f, Bool.and_eq_true, Bool.not_eq_true', Bool.not_true, Bool.not_false, and_true, true_and] at hQz); simp only [go_sem, *] <;> rfl)); (case hn => (intro hQz; (try simp only [wantB_t, wantB_f, Bool.and_eq_true, Bool.not_eq_true', Bool.not_true, Bool.not_false, and_true, true_and] at hQz); simp only [go_sem, *] <;> rfl)); (case hp => intro hQz; first | exact letter2_ok _ | (have hXz := letter2_ok _; simp only [go_sem, *] at hXz; exact hXz)))
    | (refine Awp.ret ?_; try simp only [go_sem, *])
    | (refine Awp.skip ?_; try simp only [go_sem, *])
    | refine Awp.block ?_
    | (apply Awp.cond; (case hc => (simp only [go_sem, *] <;> rfl)); all_goals (intro hg; (try simp only [Bool.not_true, Bool.not_false, reduceCtorEq] at hg); (try have hg' := hg); (try simp only [decide_eq_true_eq, decide_eq_false_iff_not, Bool.and_eq_true, Bool.or_eq_false_iff, bne_iff_ne, bne_eq_false_iff_eq, beq_iff_eq, beq_eq_false_iff_ne, Int.not_lt, Int.not_le, Int.ofNat_lt, Int.ofNat_le, Int.natCast_inj] at hg')))
    | refine Awp.seq ?_)
  · exact Lower.bool (nameB_head hg).symm
  · have h0 := hg'
    refine Awp.loop (fun i : Nat => i ≤ s.size ∧ ∀ j, j < i → okB (byteAt s j) = true) 0 (fun i => mkS [(0, .v (.string s)), (3, .v (.int .i64 i))] []) (fun i => s.size - i) 0 (by simp) ?_ ?_
    · (apply Ghost.mk [] []; (case hdead => rfl); (case hinj => rfl); (case hV => (simp only [go_sem, *]) <;> (repeat' (first | exact View.int (by first | rfl | omega | (simp; done) | (rw [wrap_i64] <;> (try simp only [Int.natCast_add]) <;> omega) | (simp [*]; done))))); (case hB => (simp only [go_sem, *]) <;> (repeat' (first | skip; done))))
    · intro i ⟨hi, hj⟩
      repeat' (first
    | (apply Awp.sreg; (case hn => (simp only [List.length_cons, List.length_nil, Nat.reduceAdd] <;> rfl)))
    | (refine st_nil ?_)
    | (apply st_a; (case hc => rfl); (case he => (simp only [go_sem, *] <;> rfl)); (case hu => (simp only [updL_nil, updL_cons] <;> rfl)); (case hp => first | trivial | assumption | omega | (simp; done) | (simp; omega) | (simp [*]; done) | ((repeat' (refine And.intro ?_ ?_)) <;> first | trivial | assumption | omega | (simp; done) | (simp; omega) | (simp [*]; done))))
    | (apply st_m; (case hc => rfl); (case hg => (simp only [go_sem, *] <;> rfl)); (case he => (intro hQz; (try simp only [wantB_t, wantB_f, Bool.and_eq_true, Bool.not_eq_true', Bool.not_true, Bool.not_false, and_true, true_and] at hQz); simp only [go_sem, *] <;> rfl)); (case hp => (intro hQz; (try simp only [wantB_t, wantB_f, Bool.and_eq_true, Bool.not_eq_true', Bool.or_eq_false_iff, decide_eq_true_eq, decide_eq_false_iff_not, beq_iff_eq, beq_eq_false_iff_ne, bne_iff_ne, bne_eq_false_iff_eq, Int.not_lt, Int.not_le, Int.ofNat_lt, Int.ofNat_le] at hQz); first | trivial | assumption | omega | (simp; done) | (simp; omega) | (simp [*]; done) | ((repeat' (refine And.intro ?_ ?_)) <;> first | trivial | assumption | omega | (simp; done) | (simp; omega) | (simp [*]; done)))))
    | (apply st_c; (case hc => (simp only [go_sem, *] <;> rfl)); (case hl => (simp only [go_sem, *] <;> rfl)); (case hn => (simp only [go_sem, *] <;> rfl)); (case hp => first | exact letter2_ok _ | (have hXz := letter2_ok _; simp only [go_sem, *] at hXz; exact hXz)))
    | (apply st_mc; (case hop => rfl); (case hg => (simp only [go_sem, *] <;> rfl)); (case hc => (intro hQz; (try simp only [wantB_t, wantB_f, Bool.and_eq_true, Bool.not_eq_true', Bool.not_true, Bool.not_false, and_true, true_and] at hQz); simp only [go_sem, *] <;> rfl)); (case hl => (intro hQz; (try simp only [wantB_t, wantB_f, Bool.and_eq_true, Bool.not_eq_true', Bool.not_true, Bool.not_false, and_true, true_and] at hQz); simp only [go_sem, *] <;> rfl)); (case hn => (intro hQz; (try simp only [wantB_t, wantB_f, Bool.and_eq_true, Bool.not_eq_true', Bool.not_true, Bool.not_false, and_true, true_and] at hQz); simp only [go_sem, *] <;> rfl)); (case hp => intro hQz; first | exact digit2_ok _ | (have hXz := digit2_ok _; simp only [go_sem, *] at hXz; exact hXz)))
    | (apply Awp.reg; (case hn => (simp only [List.length_cons, List.length_nil, Nat.reduceAdd] <;> rfl)))
    | (refine Awp.ret ?_; try simp only [go_sem, *])
    | (refine Awp.skip ?_; try simp only [go_sem, *])
    | (refine Awp.exit ?_; try simp only [go_sem, *])
    | refine Awp.block ?_
    | (apply Awp.cond; (case hc => (simp only [go_sem, *] <;> rfl)); all_goals (intro hg; (try simp only [Bool.not_true, Bool.not_false, reduceCtorEq] at hg); (try have hg' := hg); (try simp only [decide_eq_true_eq, decide_eq_false_iff_not, Bool.and_eq_true, Bool.or_eq_false_iff, bne_iff_ne, bne_eq_false_iff_eq, beq_iff_eq, beq_eq_false_iff_ne, Int.not_lt, Int.not_le, Int.ofNat_lt, Int.ofNat_le, Int.natCast_inj] at hg')))
    | refine Awp.seq ?_)
      · rw [okN] at hg
        exact Lower.bool (nameB_bad (i := i) (by assumption) (by simpa using hg)).symm
      · rw [okN] at hg
        refine ⟨i + 1, ⟨by omega, ltSucc hj (by simpa using hg)⟩, by omega, ?_⟩
        (apply Ghost.mk [] []; (case hdead => rfl); (case hinj => rfl); (case hV => (simp only [go_sem, *]) <;> (repeat' (first | exact View.int (by first | rfl | omega | (simp; done) | (rw [wrap_i64] <;> (try simp only [Int.natCast_add]) <;> omega) | (simp [*]; done))))); (case hB => (simp only [go_sem, *]) <;> (repeat' (first | skip; done))))
      · exact Lower.bool (nameB_end h0.1.1 h0.1.2 (by simpa using h0.2) hj (by omega)).symm
theorem get_byteAt (s : ByteArray) (i : Nat) : ((s.get! i).toNat : Int) = byteAt s i := by
  show ((s.data[i]!).toNat : Int) = _
  rw [Array.getElem!_eq_getD]
  rfl
theorem decode_lo {s : ByteArray} {i : Nat} (h : byteAt s i < 128) : ((Utf8.decode s i).1 : Int) = byteAt s i ∧ (Utf8.decode s i).2 = 1 := by
  have h1 := get_byteAt s i
  have h2 : (s.get! i).toNat < 128 := by omega
  simp only [Utf8.decode, h2, if_true, Nat.add_zero]
  exact ⟨h1, trivial⟩
theorem decode_hi {s : ByteArray} {i : Nat} (h : 128 ≤ byteAt s i) : (128 : Int) ≤ ((Utf8.decode s i).1 : Int) := by
  have h1 := get_byteAt s i
  have h2 : ¬ (s.get! i).toNat < 128 := by omega
  have h3 : 128 ≤ (Utf8.decode s i).1 := by
    simp only [Utf8.decode, Nat.add_zero, h2, if_false, Utf8.runeError]
    repeat' split
    all_goals simp_all
    all_goals omega
  omega
def nmC (c : Int) (i : Nat) : Bool := !(decide (65 ≤ c) && decide (c ≤ 90) || decide (97 ≤ c) && decide (c ≤ 122)) && ((i : Int) == 0 || !(decide (48 ≤ c) && decide (c ≤ 57) || c == 95 || c == 45))
theorem nm_bad {s : ByteArray} {i : Nat} (hi : i < s.size) (h : nmC ((Utf8.decode s i).1 : Nat) i = true) : nameB s = false := by
  rcases Int.lt_or_le (byteAt s i) 128 with hb | hb
  · rw [(decode_lo hb).1] at h
    by_cases h0 : i = 0
    · subst h0
      refine nameB_head ?_
      simp only [nmC, Bool.and_eq_true, Bool.not_eq_true'] at h
      simp only [Bool.or_eq_true, Bool.not_eq_true', letB]
      refine .inr ?_
      rw [Bool.or_comm]
      exact h.1
    · refine nameB_bad hi ?_
      simp [nmC, okB, letB, digB, h0] at h ⊢
      omega
  · have := decode_hi hb
    refine nameB_bad hi ?_
    simp [okB, letB, digB]
    omega
theorem nm_good {s : ByteArray} {i : Nat} (h : nmC ((Utf8.decode s i).1 : Nat) i = false) : (Utf8.decode s i).2 = 1 ∧ okB (byteAt s i) = true ∧ (i = 0 → letB (byteAt s 0) = true) := by
  rcases Int.lt_or_le (byteAt s i) 128 with hb | hb
  · rw [(decode_lo hb).1] at h
    refine ⟨(decode_lo hb).2, ?_, fun h0 => ?_⟩
    · simp [nmC, okB, letB, digB] at h ⊢
      omega
    · subst h0
      simp [nmC, letB] at h ⊢
      omega
  · have h1 := decode_hi hb
    generalize ((Utf8.decode s i).1 : Int) = c at *
    simp [nmC] at h
    omega
theorem name_ok (s : ByteArray) : Pure Tryd.prog 22 [.v (.string s)] (.v (.bool (nameB s))) := by
  refine fn_pure Tryd.F22 (Nat.le_of_ble_eq_true rfl) ?_; unfold Tryd.ac22
  repeat' (first
    | (apply Awp.sreg; (case hn => (simp only [List.length_cons, List.length_nil, Nat.reduceAdd] <;> rfl)))
    | (refine st_nil ?_)
    | (apply st_a; (case hc => rfl); (case he => (simp only [go_sem, *] <;> rfl)); (case hu => (simp only [updL_nil, updL_cons] <;> rfl)); (case hp => first | trivial | assumption | omega | (simp; done) | (simp; omega) | (simp [*]; done) | ((repeat' (refine And.intro ?_ ?_)) <;> first | trivial | assumption | omega | (simp; done) | (simp; omega) | (simp [*]; done))))
    | (apply st_m; (case hc => rfl); (case hg => (simp only [go_sem, *] <;> rfl)); (case he => (intro hQz; (try simp only [wantB_t, wantB_f, Bool.and_eq_true, Bool.not_eq_true', Bool.not_true, Bool.not_false, and_true, true_and] at hQz); simp only [go_sem, *] <;> rfl)); (case hp => (intro hQz; (try simp only [wantB_t, wantB_f, Bool.and_eq_true, Bool.not_eq_true', Bool.or_eq_false_iff, decide_eq_true_eq, decide_eq_false_iff_not, beq_iff_eq, beq_eq_false_iff_ne, bne_iff_ne, bne_eq_false_iff_eq, Int.not_lt, Int.not_le, Int.ofNat_lt, Int.ofNat_le] at hQz); first | trivial | assumption | omega | (simp; done) | (simp; omega) | (simp [*]; done) | ((repeat' (refine And.intro ?_ ?_)) <;> first | trivial | assumption | omega | (simp; done) | (simp; omega) | (simp [*]; done)))))
    | (refine Awp.ret ?_; try simp only [go_sem, *])
    | (refine Awp.skip ?_; try simp only [go_sem, *])
    | refine Awp.block ?_
    | (apply Awp.cond; (case hc => (simp only [go_sem, *] <;> rfl)); all_goals (intro hg; (try simp only [Bool.not_true, Bool.not_false, reduceCtorEq] at hg); (try have hg' := hg); (try simp only [decide_eq_true_eq, decide_eq_false_iff_not, Bool.and_eq_true, Bool.or_eq_false_iff, bne_iff_ne, bne_eq_false_iff_eq, beq_iff_eq, beq_eq_false_iff_ne, Int.not_lt, Int.not_le, Int.ofNat_lt, Int.ofNat_le, Int.natCast_inj] at hg')))
    | refine Awp.seq ?_)
  · refine Lower.bool (nameB_head ?_).symm
    rw [hg]; rfl
  · have h0 := hg'
    refine Awp.loop (fun i : Nat => i ≤ s.size ∧ (0 < i → letB (byteAt s 0) = true) ∧ ∀ j, j < i → okB (byteAt s j) = true) 10 (fun i => mkS [(0, .v (.string s)), (15, .bp 9 0)] [(9, .iter s i)]) (fun i => s.size - i) 0 (by simp) ?_ ?_
    · (apply Ghost.mk [] []; (case hdead => rfl); (case hinj => rfl); (case hV => (simp only [go_sem, *]) <;> (repeat' (first | exact .bp rfl (by decide)))); (case hB => (simp only [go_sem, *]) <;> (repeat' (first | exact ⟨_, rfl, .iterE (by first | rfl | omega | (simp; done) | (rw [wrap_i64] <;> (try simp only [Int.natCast_add]) <;> omega) | (simp [*]; done))⟩))))
    · intro i ⟨hi, hl, hj⟩
      by_cases hs : i < s.size
      · have e1 := nextV_in hs
        have e2 := nextPos_in hs
        repeat' (first
    | (apply Awp.sreg; (case hn => (simp only [List.length_cons, List.length_nil, Nat.reduceAdd] <;> rfl)))
    | (refine st_nil ?_)
    | (apply st_a; (case hc => rfl); (case he => (simp only [go_sem, *] <;> rfl)); (case hu => (simp only [updL_nil, updL_cons] <;> rfl)); (case hp => first | trivial | assumption | omega | (simp; done) | (simp; omega) | (simp [*]; done) | ((repeat' (refine And.intro ?_ ?_)) <;> first | trivial | assumption | omega | (simp; done) | (simp; omega) | (simp [*]; done))))
    | (apply st_m; (case hc => rfl); (case hg => (simp only [go_sem, *] <;> rfl)); (case he => (intro hQz; (try simp only [wantB_t, wantB_f, Bool.and_eq_true, Bool.not_eq_true', Bool.not_true, Bool.not_false, and_true, true_and] at hQz); simp only [go_sem, *] <;> rfl)); (case hp => (intro hQz; (try simp only [wantB_t, wantB_f, Bool.and_eq_true, Bool.not_eq_true', Bool.or_eq_false_iff, decide_eq_true_eq, decide_eq_false_iff_not, beq_iff_eq, beq_eq_false_iff_ne, bne_iff_ne, bne_eq_false_iff_eq, Int.not_lt, Int.not_le, Int.ofNat_lt, Int.ofNat_le] at hQz); first | trivial | assumption | omega | (simp; done) | (simp; omega) | (simp [*]; done) | ((repeat' (refine And.intro ?_ ?_)) <;> first | trivial | assumption | omega | (simp; done) | (simp; omega) | (simp [*]; done)))))
    | (refine Awp.ret ?_; try simp only [go_sem, *])
    | (refine Awp.skip ?_; try simp only [go_sem, *])
    | refine Awp.block ?_
    | (apply Awp.cond; (case hc => (simp only [go_sem, *] <;> rfl)); all_goals (intro hg; (try simp only [Bool.not_true, Bool.not_false, reduceCtorEq] at hg); (try have hg' := hg); (try simp only [decide_eq_true_eq, decide_eq_false_iff_not, Bool.and_eq_true, Bool.or_eq_false_iff, bne_iff_ne, bne_eq_false_iff_eq, beq_iff_eq, beq_eq_false_iff_ne, Int.not_lt, Int.not_le, Int.ofNat_lt, Int.ofNat_le, Int.natCast_inj] at hg')))
    | refine Awp.seq ?_)
        · exact Lower.bool (nm_bad hs hg).symm
        · obtain ⟨g1, g2, g3⟩ := nm_good (s := s) (i := i) hg
          rw [g1] at e2
          refine ⟨i + 1, ⟨by omega, fun _ => ?_, ltSucc hj g2⟩, by omega, ?_⟩
          · rcases Nat.eq_zero_or_pos i with h | h
            · exact g3 h
            · exact hl h
          · (apply Ghost.mk [] []; (case hdead => rfl); (case hinj => rfl); (case hV => (simp only [go_sem, *]) <;> (repeat' (first | exact .bp rfl (by decide)))); (case hB => (simp only [go_sem, *]) <;> (repeat' (first | exact ⟨_, rfl, .iterE (by first | rfl | omega | (simp; done) | (rw [wrap_i64] <;> (try simp only [Int.natCast_add]) <;> omega) | (simp [*]; done))⟩))))
      · have e1 := nextV_end hs
        have e2 := nextPos_end hs
        repeat' (first
    | (apply Awp.sreg; (case hn => (simp only [List.length_cons, List.length_nil, Nat.reduceAdd] <;> rfl)))
    | (refine st_nil ?_)
    | (apply st_a; (case hc => rfl); (case he => (simp only [go_sem, *] <;> rfl)); (case hu => (simp only [updL_nil, updL_cons] <;> rfl)); (case hp => first | trivial | assumption | omega | (simp; done) | (simp; omega) | (simp [*]; done) | ((repeat' (refine And.intro ?_ ?_)) <;> first | trivial | assumption | omega | (simp; done) | (simp; omega) | (simp [*]; done))))
    | (refine Awp.ret ?_; try simp only [go_sem, *])
    | (refine Awp.exit ?_; try simp only [go_sem, *])
    | (apply Awp.cond; (case hc => (simp only [go_sem, *] <;> rfl)); all_goals (intro hg; (try simp only [Bool.not_true, Bool.not_false, reduceCtorEq] at hg); (try have hg' := hg); (try simp only [decide_eq_true_eq, decide_eq_false_iff_not, Bool.and_eq_true, Bool.or_eq_false_iff, bne_iff_ne, bne_eq_false_iff_eq, beq_iff_eq, beq_eq_false_iff_ne, Int.not_lt, Int.not_le, Int.ofNat_lt, Int.ofNat_le, Int.natCast_inj] at hg')))
    | refine Awp.seq ?_)
        all_goals exact Lower.bool (nameB_end h0.1 h0.2 (hl (by omega)) hj (by omega)).symm
end Go.Proofs
end
section
set_option linter.unusedVariables false
set_option linter.unusedSimpArgs false
namespace Go.Proofs
open Go Go.Ab
set_option maxHeartbeats 1000000
set_option maxRecDepth 100000
set_option linter.unusedSimpArgs false
set_option linter.unusedVariables false
theorem pure_two {P : Program} {f : FuncId} {x y v : Value} (hc : Callable P f) (h : ∀ w, Calls P f #[x, y] w fun e w' => e = .returned v ∧ w' = w) : Go.Ab.Pure P f [.v x, .v y] (.v v) := by
  refine ⟨hc, fun ok w cs ha => ?_⟩
  obtain ⟨hl, hv⟩ := ha
  match cs, hl with
  | [a, b], _ =>
    have h1 := hv 0 (by simp)
    have h2 := hv 1 (by simp)
    simp only [av_zero, av_succ, cv, List.getD_cons_zero, List.getD_cons_succ] at h1 h2
    cases h1; cases h2
    refine (h w).mono fun e w' ⟨he, hw⟩ => ⟨v, he, ?_, .v _⟩
    subst hw
    exact ⟨rfl, rfl, rfl, Nat.le_refl _, fun _ _ => rfl⟩
theorem count_ok (s : ByteArray) : Go.Ab.Pure Tryd.prog 57 [.v (.string s), .v (.string ⟨⟨[46]⟩⟩)] (.v (.int .i64 (Lib.countByte s.data.toList 46 : Nat))) :=
  pure_two ⟨_, Tryd.func57, by kernel_rfl, by kernel_rfl⟩ fun w => Tryd.strings_Count_one s 46 w
theorem indexS_ok (s : ByteArray) : Go.Ab.Pure Tryd.prog 58 [.v (.string s), .v (.string ⟨⟨[46]⟩⟩)] (.v (.int .i64 (Lib.indexByte s.data.toList 46))) :=
  pure_two ⟨_, Tryd.func58, by kernel_rfl, by kernel_rfl⟩ fun w => Tryd.strings_Index_one s 46 w
attribute [local irreducible] Awp aops aopsL Go.Ab.Pure PureOwn
def strs (l : List ByteArray) : List (List AV) := l.map fun s => [.v (.string s)]
@[go_sem] theorem strs_len (l : List ByteArray) : (strs l).length = l.length := by simp [strs]
@[go_sem] theorem strs_at (l : List ByteArray) (i : Nat) (h : i < l.length) : (strs l).getD i [] = [.v (.string (l.getD i ⟨#[]⟩))] := by
  simp [strs, List.getD_eq_getElem?_getD, h]
@[go_sem] theorem cast_beq (a b : Nat) : ((a : Int) == (b : Int)) = (a == b) := by
  rw [Bool.eq_iff_iff, beq_iff_eq, beq_iff_eq, Int.natCast_inj]
theorem strs_snoc (l : List ByteArray) (s : ByteArray) : strs l ++ [[.v (.string s)]] = strs (l ++ [s]) := by simp [strs]
def parF (s : ByteArray) : Nat → Nat → Nat → List ByteArray
  | 0, _, _ => []
  | n + 1, i, fr => if i == s.size || byteAt s i == 46 then s.extract fr i :: parF s n (i + 1) (i + 1) else parF s n (i + 1) fr
def parts (s : ByteArray) : List ByteArray := parF s (s.size + 1) 0 0
theorem parts_ok (s : ByteArray) (hs : s.size < 1000000) : PureOwn Tryd.prog 29 [.v (.string s)] (strs (parts s)) 1 9 := by
  refine fn_own Tryd.F29 (Nat.le_of_ble_eq_true rfl) ?_; unfold Tryd.ac29
  repeat' (first
    | (apply Awp.sreg; (case hn => (simp only [List.length_cons, List.length_nil, Nat.reduceAdd] <;> rfl)))
    | (refine st_nil ?_)
    | (apply st_a; (case hc => rfl); (case he => (simp only [go_sem, *] <;> rfl)); (case hu => (simp only [updL_nil, updL_cons] <;> rfl)); (case hp => first | trivial | assumption | omega | (simp; done) | (simp; omega) | (simp [*]; done) | ((repeat' (refine And.intro ?_ ?_)) <;> first | trivial | assumption | omega | (simp; done) | (simp; omega) | (simp [*]; done))))
    | refine Awp.block ?_
    | refine Awp.seq ?_)
  · refine Awp.loop (fun x : Nat × Nat × List ByteArray => x.1 ≤ s.size + 1 ∧ x.2.1 ≤ x.1 ∧ x.2.2.length ≤ x.1 ∧ x.2.2 ++ parF s (s.size + 1 - x.1) x.1 x.2.1 = parts s) 20
      (fun x => mkS [(0, .v (.string s)), (3, .own 0), (4, .v (.int .i64 x.2.1)), (5, .v (.int .i64 x.1))] [(0, .row (strs x.2.2) 1 9)]) (fun x => s.size + 1 - x.1) (0, 0, []) (by simp [parts]) ?_ ?_
    · refine Ghost.trans (Ghost.name 3 1 9 rfl (by decide)) ?_
      (apply Ghost.mk [(0, 4)] []; (case hdead => rfl); (case hinj => rfl); (case hV => (simp only [go_sem, *]) <;> (repeat' (first | refine And.intro ?_ ?_ | exact View.int (by first | rfl | omega | (simp; done) | (rw [wrap_i64] <;> (try simp only [Int.natCast_add]) <;> omega) | (simp [*]; done)) | exact .own rfl (by decide)))); (case hB => (simp only [go_sem, *]) <;> (repeat' (first | exact ⟨_, rfl, .rowE (by first | rfl | omega | (simp; done) | (rw [wrap_i64] <;> (try simp only [Int.natCast_add]) <;> omega) | (simp [*]; done))⟩))))
    · intro ⟨i, fr, out⟩ ⟨h1, h2, h3, h4⟩
      dsimp only at h1 h2 h3 h4 ⊢
      repeat' (first
    | (apply Awp.sreg; (case hn => (simp only [List.length_cons, List.length_nil, Nat.reduceAdd] <;> rfl)))
    | (refine st_nil ?_)
    | (apply st_a; (case hc => rfl); (case he => (simp only [go_sem, *] <;> rfl)); (case hu => (simp only [updL_nil, updL_cons] <;> rfl)); (case hp => first | trivial | assumption | omega | (simp; done) | (simp; omega) | (simp [*]; done) | ((repeat' (refine And.intro ?_ ?_)) <;> first | trivial | assumption | omega | (simp; done) | (simp; omega) | (simp [*]; done))))
    | (apply st_m; (case hc => rfl); (case hg => (simp only [go_sem, *] <;> rfl)); (case he => (intro hQz; (try simp only [wantB_t, wantB_f, Bool.and_eq_true, Bool.not_eq_true', Bool.not_true, Bool.not_false, and_true, true_and] at hQz); simp only [go_sem, *] <;> rfl)); (case hp => (intro hQz; (try simp only [wantB_t, wantB_f, Bool.and_eq_true, Bool.not_eq_true', Bool.or_eq_false_iff, decide_eq_true_eq, decide_eq_false_iff_not, beq_iff_eq, beq_eq_false_iff_ne, bne_iff_ne, bne_eq_false_iff_eq, Int.not_lt, Int.not_le, Int.ofNat_lt, Int.ofNat_le] at hQz); first | trivial | assumption | omega | (simp; done) | (simp; omega) | (simp [*]; done) | ((repeat' (refine And.intro ?_ ?_)) <;> first | trivial | assumption | omega | (simp; done) | (simp; omega) | (simp [*]; done)))))
    | (apply Awp.reg; (case hn => (simp only [List.length_cons, List.length_nil, Nat.reduceAdd] <;> rfl)))
    | (refine Awp.ret ?_; try simp only [go_sem, *])
    | (refine Awp.skip ?_; try simp only [go_sem, *])
    | (refine Awp.exit ?_; try simp only [go_sem, *])
    | refine Awp.block ?_
    | (apply Awp.cond; (case hc => (simp only [go_sem, *] <;> rfl)); all_goals (intro hg; (try simp only [Bool.not_true, Bool.not_false, reduceCtorEq] at hg); (try have hg' := hg); (try simp only [decide_eq_true_eq, decide_eq_false_iff_not, Bool.and_eq_true, Bool.or_eq_false_iff, bne_iff_ne, bne_eq_false_iff_eq, beq_iff_eq, beq_eq_false_iff_ne, Int.not_lt, Int.not_le, Int.ofNat_lt, Int.ofNat_le, Int.natCast_inj] at hg')))
    | refine Awp.seq ?_)
      · refine ⟨(i + 1, i + 1, out ++ [s.extract fr i]), ⟨by dsimp only; omega, by dsimp only; omega, by simp; omega, ?_⟩, by dsimp only; omega, ?_⟩
        · dsimp only
          rw [← h4, show s.size + 1 - i = s.size + 1 - (i + 1) + 1 by omega, parF, if_pos hg]
          simp
        · (apply Ghost.mk [(0, 40)] []; (case hdead => rfl); (case hinj => rfl); (case hV => (simp only [go_sem, *]) <;> (repeat' (first | refine And.intro ?_ ?_ | exact View.int (by first | rfl | exact strs_snoc _ _ | omega | (simp; done) | (rw [wrap_i64] <;> (try simp only [Int.natCast_add]) <;> omega) | (simp [*]; done)) | exact .own rfl (by decide)))); (case hB => (simp only [go_sem, *]) <;> (repeat' (first | exact ⟨_, rfl, .rowE (by first | rfl | exact strs_snoc _ _ | omega | (simp; done) | (rw [wrap_i64] <;> (try simp only [Int.natCast_add]) <;> omega) | (simp [*]; done))⟩))))
      · refine ⟨(i + 1, fr, out), ⟨by dsimp only; omega, by dsimp only; omega, by dsimp only; omega, ?_⟩, by dsimp only; omega, ?_⟩
        · dsimp only
          rw [← h4, show s.size + 1 - i = s.size + 1 - (i + 1) + 1 by omega, parF, if_neg (by rw [hg]; decide)]
        · (apply Ghost.mk [] []; (case hdead => rfl); (case hinj => rfl); (case hV => (simp only [go_sem, *]) <;> (repeat' (first | refine And.intro ?_ ?_ | exact View.int (by first | rfl | omega | (simp; done) | (rw [wrap_i64] <;> (try simp only [Int.natCast_add]) <;> omega) | (simp [*]; done)) | exact .own rfl (by decide)))); (case hB => (simp only [go_sem, *]) <;> (repeat' (first | exact ⟨_, rfl, .rowE (by first | rfl | omega | (simp; done) | (rw [wrap_i64] <;> (try simp only [Int.natCast_add]) <;> omega) | (simp [*]; done))⟩))))
      · refine ⟨0, rfl, ?_⟩
        have : s.size + 1 - i = 0 := by omega
        rw [this, parF, List.append_nil] at h4
        rw [← h4]
        rfl
theorem ext_ext (s : ByteArray) (a b c d : Nat) : (s.extract a b).extract c d = s.extract (a + c) (min (a + d) b) := by
  apply ByteArray.ext
  simp [Array.extract_extract]
theorem ext_size (s : ByteArray) (a b : Nat) : (s.extract a b).size = min b s.size - a := by
  exact ByteArray.size_extract
end Go.Proofs
end
section
set_option linter.unusedVariables false
set_option linter.unusedSimpArgs false
namespace Go.Proofs
open Go Go.Ab
set_option maxHeartbeats 1000000
set_option maxRecDepth 100000
set_option linter.unusedSimpArgs false
set_option linter.unusedVariables false
attribute [local irreducible] Awp aops aopsL Go.Ab.Pure PureOwn
theorem ix_some : ∀ (l : List UInt8), 0 < l.count 46 → ∃ m : Nat, Lib.indexByte l 46 = (m : Int) ∧ m < l.length ∧ l.getD m 0 = 46 ∧ (∀ j, j < m → l.getD j 0 ≠ 46) ∧ l.count 46 = (l.drop (m + 1)).count 46 + 1
  | [], h => by simp at h
  | b :: l, h => by
    by_cases hb : b = 46
    · subst hb
      exact ⟨0, by simp [Lib.indexByte], by simp, by simp, fun j hj => by omega, by simp⟩
    · have hc : (b :: l).count 46 = l.count 46 := by rw [List.count_cons]; simp [hb]
      rw [hc] at h
      obtain ⟨m, h1, h2, h3, h4, h5⟩ := ix_some l h
      refine ⟨m + 1, ?_, by simp; omega, by simpa using h3, fun j hj => ?_, by rw [hc, h5]; simp⟩
      · have : ¬ ((m : Int) = -1) := by omega
        simp [Lib.indexByte, hb, h1, this]
      · cases j with
        | zero => simpa using hb
        | succ j => simpa using h4 j (by omega)
theorem byteAt_list (s : ByteArray) (i : Nat) : byteAt s i = ((s.data.toList.getD i 0).toNat : Int) := by
  unfold byteAt
  rw [Array.getD_eq_getD_getElem?, List.getD_eq_getElem?_getD, Array.getElem?_toList]
theorem byteAt_dot {s : ByteArray} {i : Nat} : byteAt s i = 46 ↔ s.data.toList.getD i 0 = 46 := by
  rw [byteAt_list]
  constructor
  · intro h
    have : (s.data.toList.getD i 0).toNat = 46 := by omega
    exact UInt8.toNat_inj.1 this
  · intro h; rw [h]; rfl
theorem ext_list (s : ByteArray) (fr : Nat) : (s.extract fr s.size).data.toList = s.data.toList.drop fr := by
  rw [ByteArray.data_extract, Array.toList_extract]
  show List.take (s.data.size - fr) (List.drop fr s.data.toList) = _
  exact List.take_of_length_le (by simp)
theorem ext_all (s : ByteArray) : s = s.extract 0 s.size := by simp
theorem parF_run (s : ByteArray) (fr : Nat) : ∀ (m i : Nat), i + m ≤ s.size → (∀ j, j < m → byteAt s (i + j) ≠ 46) → parF s (s.size + 1 - i) i fr = parF s (s.size + 1 - (i + m)) (i + m) fr
  | 0, i, _, _ => rfl
  | m + 1, i, h, hj => by
    have h0 := hj 0 (by omega)
    rw [show s.size + 1 - i = s.size + 1 - (i + 1) + 1 by omega, parF, if_neg (by simp only [Bool.or_eq_true, beq_iff_eq, not_or]; exact ⟨by omega, h0⟩)]
    rw [parF_run s fr m (i + 1) (by omega) (fun j hj' => by rw [show i + 1 + j = i + (j + 1) by omega]; exact hj (j + 1) (by omega))]
    rw [show i + 1 + m = i + (m + 1) by omega]
theorem parF_dot {s : ByteArray} {fr m : Nat} (h : fr + m < s.size) (hm : byteAt s (fr + m) = 46) (hj : ∀ j, j < m → byteAt s (fr + j) ≠ 46) : parF s (s.size + 1 - fr) fr fr = s.extract fr (fr + m) :: parF s (s.size + 1 - (fr + m + 1)) (fr + m + 1) (fr + m + 1) := by
  rw [parF_run s fr m fr (by omega) hj, show s.size + 1 - (fr + m) = s.size + 1 - (fr + m + 1) + 1 by omega, parF, if_pos (by simp [hm])]
theorem parF_last {s : ByteArray} {fr : Nat} (h : fr ≤ s.size) (hj : ∀ j, fr ≤ j → j < s.size → byteAt s j ≠ 46) : parF s (s.size + 1 - fr) fr fr = [s.extract fr s.size] := by
  rw [parF_run s fr (s.size - fr) fr (by omega) (fun j hj' => hj _ (by omega) (by omega)), show fr + (s.size - fr) = s.size by omega, show s.size + 1 - s.size = 0 + 1 by omega, parF, if_pos (by simp), parF]
theorem count_zero {l : List UInt8} {fr : Nat} (h : (l.drop fr).count 46 = 0) : ∀ j, fr ≤ j → j < l.length → l.getD j 0 ≠ 46 := by
  intro j h1 h2 e
  rw [List.count_eq_zero] at h
  refine h ?_
  rw [← e]
  simp only [List.getD_eq_getElem?_getD, List.getElem?_eq_getElem h2, Option.getD_some]
  exact List.mem_drop_iff_getElem.2 ⟨j - fr, by omega, by congr 1; omega⟩
theorem rep_at (l : List ByteArray) (n : Nat) (z : List AV) (h : 0 < n) : (strs l ++ List.replicate n z).getD l.length [] = z := by
  simp [strs, List.getD_eq_getElem?_getD, List.getElem?_append_right, List.getElem?_replicate, h]
theorem rep_set (l : List ByteArray) (n : Nat) (z : List AV) (x : ByteArray) (h : l.length < n) : (strs l ++ List.replicate (n - l.length) z).set l.length [.v (.string x)] = strs (l ++ [x]) ++ List.replicate (n - (l ++ [x]).length) z := by
  have h1 : n - l.length = (n - (l ++ [x]).length) + 1 := by simp; omega
  rw [h1, List.replicate_succ]
  simp [strs, List.set_append_right]
theorem getD_drop (l : List UInt8) (k j : Nat) : (l.drop k).getD j 0 = l.getD (k + j) 0 := by
  simp [List.getD_eq_getElem?_getD, List.getElem?_drop]
theorem gensplit_ok (s : ByteArray) (hs : s.size < 1000000) : Pure Tryd.prog 53 [.v (.string s), .v (.string ⟨⟨[46]⟩⟩), .v (.int .i64 0), .v (.int .i64 (-1))] (.sl (strs (parts s))) := by
  obtain ⟨C, hC⟩ : ∃ C, Lib.countByte s.data.toList 46 = C := ⟨_, rfl⟩
  have hc := count_ok s
  rw [hC] at hc
  have hle : C ≤ s.size := by rw [← hC]; exact List.count_le_length
  have w1 : IntKind.i64.wrap ((C : Int) + 1) = C + 1 := wrap_i64 (by omega) (by omega)
  have w2 : IntKind.i64.wrap ((s.size : Int) + 1) = s.size + 1 := wrap_i64 (by omega) (by omega)
  have w3 : ¬ ((s.size : Int) + 1 < C + 1) := by omega
  have w4 : IntKind.i64.wrap ((C : Int) + 1 - 1) = C := by rw [wrap_i64] <;> omega
  have w5 : ((C : Int) + 1).toNat = C + 1 := by omega
  have w6 : (Array.size (⟨[46]⟩ : Array UInt8) == 0) = false := rfl
  have w7 : ((Array.size (⟨[46]⟩ : Array UInt8) : Nat) : Int) = 1 := rfl
  refine fn_pure Tryd.F53 (Nat.le_of_ble_eq_true rfl) ?_; unfold Tryd.ac53
  repeat' (first
    | (apply Awp.sreg; (case hn => (simp only [List.length_cons, List.length_nil, Nat.reduceAdd] <;> rfl)))
    | (refine st_nil ?_)
    | (apply st_a; (case hc => rfl); (case he => (simp only [go_sem, *] <;> rfl)); (case hu => (simp only [updL_nil, updL_cons] <;> rfl)); (case hp => first | trivial | assumption | omega | (simp; done) | (simp; omega) | (simp [*]; done) | ((repeat' (refine And.intro ?_ ?_)) <;> first | trivial | assumption | omega | (simp; done) | (simp; omega) | (simp [*]; done))))
    | (apply st_c; (case hc => (simp only [go_sem, *] <;> rfl)); (case hl => (simp only [go_sem, *] <;> rfl)); (case hn => (simp only [go_sem, *] <;> rfl)); (case hp => first | exact hc | (have hXz := hc; simp only [go_sem, *] at hXz; exact hXz)))
    | (apply Awp.reg; (case hn => (simp only [List.length_cons, List.length_nil, Nat.reduceAdd] <;> rfl)))
    | (refine Awp.skip ?_; try simp only [go_sem, *])
    | refine Awp.block ?_
    | (apply Awp.cond; (case hc => (simp only [go_sem, *] <;> rfl)); all_goals (intro hg; (try simp only [Bool.not_true, Bool.not_false, reduceCtorEq] at hg); (try have hg' := hg); (try simp only [decide_eq_true_eq, decide_eq_false_iff_not, Bool.and_eq_true, Bool.or_eq_false_iff, bne_iff_ne, bne_eq_false_iff_eq, beq_iff_eq, beq_eq_false_iff_ne, Int.not_lt, Int.not_le, Int.ofNat_lt, Int.ofNat_le, Int.natCast_inj] at hg')))
    | refine Awp.seq ?_)
  · refine Awp.loop (fun x : Nat × List ByteArray => x.1 ≤ s.size ∧ x.2 ++ parF s (s.size + 1 - x.1) x.1 x.1 = parts s ∧ (s.data.toList.drop x.1).count 46 + x.2.length = C) 30
      (fun x => mkS [(0, .v (.string (s.extract x.1 s.size))), (1, .v (.string ⟨⟨[46]⟩⟩)), (2, .v (.int .i64 0)), (3, .v (.int .i64 C)), (9, .own 0), (10, .v (.int .i64 x.2.length))] [(0, .row (strs x.2 ++ List.replicate (C + 1 - x.2.length) [.v (.string ⟨⟨[]⟩⟩)]) 1 9)]) (fun x => C - x.2.length) (0, []) ?_ ?_ ?_
    · exact ⟨Nat.zero_le _, rfl, by rw [← hC]; rfl⟩
    · (apply Ghost.mk [(0, 19)] []; (case hdead => rfl); (case hinj => rfl); (case hV => (simp only [go_sem, *]) <;> (repeat' (first | refine And.intro ?_ ?_ | exact View.int (by first | rfl | exact ext_all s | omega | (simp; done) | (rw [wrap_i64] <;> (try simp only [Int.natCast_add]) <;> omega) | (simp [*]; done)) | exact View.str (by first | rfl | exact ext_all s | omega | (simp; done) | (rw [wrap_i64] <;> (try simp only [Int.natCast_add]) <;> omega) | (simp [*]; done)) | exact .own rfl (by decide)))); (case hB => (simp only [go_sem, *]) <;> (repeat' (first | exact ⟨_, rfl, .rowE (by first | rfl | exact ext_all s | omega | (simp; done) | (rw [wrap_i64] <;> (try simp only [Int.natCast_add]) <;> omega) | (simp [*]; done))⟩))))
    · intro ⟨fr, out⟩ ⟨h1, h2, h3⟩
      dsimp only at h1 h2 h3 ⊢
      have hl : (s.extract fr s.size).data.toList = s.data.toList.drop fr := ext_list s fr
      by_cases hlt : out.length < C
      · obtain ⟨m, m1, m2, m3, m4, m5⟩ := ix_some (s.data.toList.drop fr) (by omega)
        have hix := indexS_ok (s.extract fr s.size)
        rw [hl, m1] at hix
        have hsz : (s.extract fr s.size).size = s.size - fr := by rw [ext_size]; omega
        have hm : m < s.size - fr := by
          rw [List.length_drop] at m2
          exact m2
        have e1 : IntKind.i64.wrap ((m : Int) + 0) = m := by rw [wrap_i64] <;> omega
        have e2 : IntKind.i64.wrap ((m : Int) + 1) = (m + 1 : Nat) := by rw [wrap_i64] <;> omega
        have e3 : ((m + 1 : Nat) : Int).toNat = m + 1 := by omega
        have e0 : ¬ ((m : Int) < 0) := by omega
        have hlt' : (out.length : Int) < C := by omega
        have e4 : (strs out ++ List.replicate (C + 1 - out.length) [AV.v (.string ⟨⟨[]⟩⟩)]).length = C + 1 := by simp [strs]; omega
        have e5 : (strs out ++ List.replicate (C + 1 - out.length) [AV.v (.string ⟨⟨[]⟩⟩)]).getD out.length [] = [.v (.string ⟨⟨[]⟩⟩)] := rep_at _ _ _ (by omega)
        have e6 : (strs out ++ List.replicate (C + 1 - out.length) [AV.v (.string ⟨⟨[]⟩⟩)]).set out.length [.v (.string (s.extract fr (fr + m)))] = strs (out ++ [s.extract fr (fr + m)]) ++ List.replicate (C + 1 - (out ++ [s.extract fr (fr + m)]).length) [AV.v (.string ⟨⟨[]⟩⟩)] := rep_set _ _ _ _ (by omega)
        have e7 : (s.extract fr s.size).extract 0 m = s.extract fr (fr + m) := by rw [ext_ext, Nat.add_zero, Nat.min_eq_left (by omega)]
        have e8 : (s.extract fr s.size).extract (m + 1) (s.size - fr) = s.extract (fr + m + 1) s.size := by rw [ext_ext, show fr + (s.size - fr) = s.size by omega, Nat.min_self]; rfl
        repeat' (first
    | (apply Awp.sreg; (case hn => (simp only [List.length_cons, List.length_nil, Nat.reduceAdd] <;> rfl)))
    | (refine st_nil ?_)
    | (apply st_a; (case hc => rfl); (case he => (simp only [go_sem, *] <;> rfl)); (case hu => (simp only [updL_nil, updL_cons] <;> rfl)); (case hp => first | trivial | assumption | omega | (simp; done) | (simp; omega) | (simp [*]; done) | ((repeat' (refine And.intro ?_ ?_)) <;> first | trivial | assumption | omega | (simp; done) | (simp; omega) | (simp [*]; done))))
    | (apply st_c; (case hc => (simp only [go_sem, *] <;> rfl)); (case hl => (simp only [go_sem, *] <;> rfl)); (case hn => (simp only [go_sem, *] <;> rfl)); (case hp => first | exact hix | (have hXz := hix; simp only [go_sem, *] at hXz; exact hXz)))
    | (apply Awp.reg; (case hn => (simp only [List.length_cons, List.length_nil, Nat.reduceAdd] <;> rfl)))
    | (refine Awp.skip ?_; try simp only [go_sem, *])
    | refine Awp.block ?_
    | (apply Awp.cond; (case hc => (simp only [go_sem, *] <;> rfl)); all_goals (intro hg; (try simp only [Bool.not_true, Bool.not_false, reduceCtorEq] at hg); (try have hg' := hg); (try simp only [decide_eq_true_eq, decide_eq_false_iff_not, Bool.and_eq_true, Bool.or_eq_false_iff, bne_iff_ne, bne_eq_false_iff_eq, beq_iff_eq, beq_eq_false_iff_ne, Int.not_lt, Int.not_le, Int.ofNat_lt, Int.ofNat_le, Int.natCast_inj] at hg')))
    | refine Awp.seq ?_)
        refine ⟨(fr + m + 1, out ++ [s.extract fr (fr + m)]), ⟨by dsimp only; omega, ?_, ?_⟩, by simp; omega, ?_⟩
        · dsimp only
          have hp := parF_dot (s := s) (fr := fr) (m := m) (by omega) (byteAt_dot.2 (by rw [← m3]; exact (getD_drop _ _ _).symm)) (fun j hj e => m4 j hj (by rw [getD_drop]; exact byteAt_dot.1 e))
          rw [hp] at h2
          rw [← h2]
          simp only [List.append_assoc, List.singleton_append]
        · rw [List.drop_drop] at m5
          simp only [List.length_append, List.length_singleton]
          rw [show fr + m + 1 = fr + (m + 1) by omega]
          omega
        · have e9 : ((out ++ [s.extract fr (fr + m)]).length : Int) = out.length + 1 := by simp
          (apply Ghost.mk [] []; (case hdead => rfl); (case hinj => rfl); (case hV => (simp only [go_sem, *]) <;> (repeat' (first | refine And.intro ?_ ?_ | exact View.int (by first | rfl | omega | (simp; done) | (rw [wrap_i64] <;> (try simp only [Int.natCast_add]) <;> omega) | (simp [*]; done)) | exact .own rfl (by decide)))); (case hB => (simp only [go_sem, *]) <;> (repeat' (first | exact ⟨_, rfl, .rowE (by first | rfl | omega | (simp; done) | (rw [wrap_i64] <;> (try simp only [Int.natCast_add]) <;> omega) | (simp [*]; done))⟩))))
      · have e1 : out.length = C := by omega
        have hz : (s.data.toList.drop fr).count 46 = 0 := by omega
        have hp := parF_last h1 (fun j hj1 hj2 e => count_zero hz j hj1 hj2 (byteAt_dot.1 e))
        rw [hp] at h2
        have e4 : (strs out ++ List.replicate (C + 1 - out.length) [AV.v (.string ⟨⟨[]⟩⟩)]).length = C + 1 := by simp [strs]; omega
        have e5 : (strs out ++ List.replicate (C + 1 - out.length) [AV.v (.string ⟨⟨[]⟩⟩)]).getD out.length [] = [.v (.string ⟨⟨[]⟩⟩)] := rep_at _ _ _ (by omega)
        have e6 : (strs out ++ List.replicate (C + 1 - out.length) [AV.v (.string ⟨⟨[]⟩⟩)]).set out.length [.v (.string (s.extract fr s.size))] = strs (parts s) := by
          rw [rep_set _ _ _ _ (by omega), h2, ← h2]
          have : C + 1 - (out ++ [s.extract fr s.size]).length = 0 := by simp; omega
          rw [this]; simp
        clear e1
        have hlt' : ¬ (out.length : Int) < C := by omega
        refine Awp.seq ?_
        (first | (apply Awp.sreg; (case hn => (simp only [List.length_cons, List.length_nil, Nat.reduceAdd] <;> rfl))) | (apply Awp.reg; (case hn => (simp only [List.length_cons, List.length_nil, Nat.reduceAdd] <;> rfl)))); repeat' (first
    | (refine st_nil ?_)
    | (apply st_a; (case hc => rfl); (case he => (simp only [go_sem, *] <;> rfl)); (case hu => (simp only [updL_nil, updL_cons] <;> rfl)); (case hp => first | trivial | assumption | omega | (simp; done) | (simp; omega) | (simp [*]; done) | ((repeat' (refine And.intro ?_ ?_)) <;> first | trivial | assumption | omega | (simp; done) | (simp; omega) | (simp [*]; done))))
    | (apply st_m; (case hc => rfl); (case hg => (simp only [go_sem, *] <;> rfl)); (case he => (intro hQz; (try simp only [wantB_t, wantB_f, Bool.and_eq_true, Bool.not_eq_true', Bool.not_true, Bool.not_false, and_true, true_and] at hQz); simp only [go_sem, *] <;> rfl)); (case hp => (intro hQz; (try simp only [wantB_t, wantB_f, Bool.and_eq_true, Bool.not_eq_true', Bool.or_eq_false_iff, decide_eq_true_eq, decide_eq_false_iff_not, beq_iff_eq, beq_eq_false_iff_ne, bne_iff_ne, bne_eq_false_iff_eq, Int.not_lt, Int.not_le, Int.ofNat_lt, Int.ofNat_le] at hQz); first | trivial | assumption | omega | (simp; done) | (simp; omega) | (simp [*]; done) | ((repeat' (refine And.intro ?_ ?_)) <;> first | trivial | assumption | omega | (simp; done) | (simp; omega) | (simp [*]; done)))))
    | (apply st_gu; (case hv => (simp only [go_sem, *] <;> rfl)))
    | (apply st_g; (case hv => (simp only [go_sem, *] <;> rfl)); all_goals (intro hg; (try simp only [Bool.not_true, Bool.not_false, reduceCtorEq] at hg); (try have hg' := hg); (try simp only [decide_eq_true_eq, decide_eq_false_iff_not, Bool.and_eq_true, Bool.or_eq_false_iff, bne_iff_ne, bne_eq_false_iff_eq, beq_iff_eq, beq_eq_false_iff_ne, Int.not_lt, Int.not_le, Int.ofNat_lt, Int.ofNat_le, Int.natCast_inj] at hg'))))
        (apply Awp.cond; (case hc => (simp only [go_sem, *] <;> rfl)); all_goals (intro hg; (try simp only [Bool.not_true, Bool.not_false, reduceCtorEq] at hg); (try have hg' := hg); (try simp only [decide_eq_true_eq, decide_eq_false_iff_not, Bool.and_eq_true, Bool.or_eq_false_iff, bne_iff_ne, bne_eq_false_iff_eq, beq_iff_eq, beq_eq_false_iff_ne, Int.not_lt, Int.not_le, Int.ofNat_lt, Int.ofNat_le, Int.natCast_inj] at hg')))
        (refine Awp.exit ?_; simp only [go_sem, *])
        (first | (apply Awp.sreg; (case hn => (simp only [List.length_cons, List.length_nil, Nat.reduceAdd] <;> rfl))) | (apply Awp.reg; (case hn => (simp only [List.length_cons, List.length_nil, Nat.reduceAdd] <;> rfl)))); repeat' (first
    | (refine st_nil ?_)
    | (apply st_a; (case hc => rfl); (case he => (simp only [go_sem, *] <;> rfl)); (case hu => (simp only [updL_nil, updL_cons] <;> rfl)); (case hp => first | trivial | assumption | omega | (simp; done) | (simp; omega) | (simp [*]; done) | ((repeat' (refine And.intro ?_ ?_)) <;> first | trivial | assumption | omega | (simp; done) | (simp; omega) | (simp [*]; done))))
    | (apply st_m; (case hc => rfl); (case hg => (simp only [go_sem, *] <;> rfl)); (case he => (intro hQz; (try simp only [wantB_t, wantB_f, Bool.and_eq_true, Bool.not_eq_true', Bool.not_true, Bool.not_false, and_true, true_and] at hQz); simp only [go_sem, *] <;> rfl)); (case hp => (intro hQz; (try simp only [wantB_t, wantB_f, Bool.and_eq_true, Bool.not_eq_true', Bool.or_eq_false_iff, decide_eq_true_eq, decide_eq_false_iff_not, beq_iff_eq, beq_eq_false_iff_ne, bne_iff_ne, bne_eq_false_iff_eq, Int.not_lt, Int.not_le, Int.ofNat_lt, Int.ofNat_le] at hQz); first | trivial | assumption | omega | (simp; done) | (simp; omega) | (simp [*]; done) | ((repeat' (refine And.intro ?_ ?_)) <;> first | trivial | assumption | omega | (simp; done) | (simp; omega) | (simp [*]; done)))))
    | (apply st_gu; (case hv => (simp only [go_sem, *] <;> rfl)))
    | (apply st_g; (case hv => (simp only [go_sem, *] <;> rfl)); all_goals (intro hg; (try simp only [Bool.not_true, Bool.not_false, reduceCtorEq] at hg); (try have hg' := hg); (try simp only [decide_eq_true_eq, decide_eq_false_iff_not, Bool.and_eq_true, Bool.or_eq_false_iff, bne_iff_ne, bne_eq_false_iff_eq, beq_iff_eq, beq_eq_false_iff_ne, Int.not_lt, Int.not_le, Int.ofNat_lt, Int.ofNat_le, Int.natCast_inj] at hg'))))
        have hlen : (parts s).length = out.length + 1 := by rw [← h2]; simp
        have e10 : IntKind.i64.wrap ((out.length : Int) + 1) = (parts s).length := by rw [wrap_i64] <;> omega
        have e11 : ∀ x ∈ strs (parts s), x.length = 1 := by simp [strs]
        refine Awp.ghost (nx' := 38) (S' := mkS [(9, .sl (strs (parts s))), (10, .v (.int .i64 out.length))] []) ?_ ?_
        · refine Ghost.mk [] [0] rfl rfl ?_ ?_
          · simp only [go_sem]
            exact .low (.own rfl)
          · simp only [go_sem]
        · repeat' (first
    | (apply Awp.sreg; (case hn => (simp only [List.length_cons, List.length_nil, Nat.reduceAdd] <;> rfl)))
    | (refine st_nil ?_)
    | (apply st_a; (case hc => rfl); (case he => (simp only [go_sem, *] <;> rfl)); (case hu => (simp only [updL_nil, updL_cons] <;> rfl)); (case hp => first | trivial | assumption | omega | (simp; done) | (simp; omega) | (simp [*]; done) | ((repeat' (refine And.intro ?_ ?_)) <;> first | trivial | assumption | omega | (simp; done) | (simp; omega) | (simp [*]; done))))
    | (refine Awp.ret ?_; try simp only [go_sem, *]))
          have e12 : List.take (parts s).length (strs (parts s)) = strs (parts s) := List.take_of_length_le (by simp [strs])
          rw [← hlen, e12]
          exact .same _ rfl
theorem split_ok (s : ByteArray) (hs : s.size < 1000000) : Pure Tryd.prog 47 [.v (.string s), .v (.string ⟨⟨[46]⟩⟩)] (.sl (strs (parts s))) := by
  refine fn_pure Tryd.F47 (Nat.le_of_ble_eq_true rfl) ?_; unfold Tryd.ac47
  repeat' (first
    | (apply Awp.sreg; (case hn => (simp only [List.length_cons, List.length_nil, Nat.reduceAdd] <;> rfl)))
    | (refine st_nil ?_)
    | (apply st_a; (case hc => rfl); (case he => (simp only [go_sem, *] <;> rfl)); (case hu => (simp only [updL_nil, updL_cons] <;> rfl)); (case hp => first | trivial | assumption | omega | (simp; done) | (simp; omega) | (simp [*]; done) | ((repeat' (refine And.intro ?_ ?_)) <;> first | trivial | assumption | omega | (simp; done) | (simp; omega) | (simp [*]; done))))
    | (apply st_c; (case hc => (simp only [go_sem, *] <;> rfl)); (case hl => (simp only [go_sem, *] <;> rfl)); (case hn => (simp only [go_sem, *] <;> rfl)); (case hp => first | exact gensplit_ok _ hs | (have hXz := gensplit_ok _ hs; simp only [go_sem, *] at hXz; exact hXz)))
    | (refine Awp.ret ?_; try simp only [go_sem, *]))
  all_goals exact .same _ rfl
end Go.Proofs
end
section
set_option linter.unusedVariables false
set_option linter.unusedSimpArgs false
namespace Go.Proofs
open Go Go.Ab
set_option maxHeartbeats 1000000
set_option maxRecDepth 100000
set_option linter.unusedSimpArgs false
set_option linter.unusedVariables false
attribute [local irreducible] Awp aops aopsL Go.Ab.Pure PureOwn
def sizes (l : List ByteArray) : Nat := (l.map (·.size)).sum
def namesB (l : List ByteArray) : Bool := l.all nameB && decide (1 ≤ (l.length : Int)) && decide ((l.length : Int) ≤ 8) && decide ((l.length : Int) - 1 + sizes l ≤ 64)
theorem sizes_next (l : List ByteArray) (i : Nat) (h : i < l.length) : sizes (l.take (i + 1)) = sizes (l.take i) + (l.getD i ⟨#[]⟩).size := by
  have e : l.take (i + 1) = l.take i ++ [l.getD i ⟨#[]⟩] := by
    rw [List.take_add_one, List.getElem?_eq_getElem h, List.getD_eq_getElem?_getD, List.getElem?_eq_getElem h]; rfl
  rw [e]; simp only [sizes, List.map_append, List.sum_append, List.map_cons, List.map_nil, List.sum_cons, List.sum_nil, Nat.add_zero]
theorem all_bad {l : List ByteArray} {i : Nat} (h : i < l.length) (e : nameB (l.getD i ⟨#[]⟩) = false) : l.all nameB = false := by
  simp only [List.all_eq_false]
  exact ⟨l.getD i ⟨#[]⟩, by simp [List.getD_eq_getElem?_getD, h], by rw [e]; simp⟩
theorem all_end {l : List ByteArray} {i : Nat} (h : ∀ j, j < i → nameB (l.getD j ⟨#[]⟩) = true) (h1 : l.length ≤ i) : l.all nameB = true := by
  simp only [List.all_eq_true]
  intro x hx
  obtain ⟨j, hj, rfl⟩ := List.getElem_of_mem hx
  have := h j (by omega)
  simpa [List.getD_eq_getElem?_getD, hj] using this
theorem sizes_take (l : List ByteArray) (i : Nat) : sizes (l.take i) ≤ sizes l := by
  have e := congrArg sizes (List.take_append_drop i l)
  simp only [sizes, List.map_append, List.sum_append] at e ⊢
  omega
theorem names_ok (l : List ByteArray) (hl : l.length < 1000000) (hz : sizes l < 1000000) : Pure Tryd.prog 46 [.sl (strs l)] (.v (.bool (namesB l))) := by
  have w1 : IntKind.i64.wrap ((l.length : Int) - 1) = l.length - 1 := by rw [wrap_i64] <;> omega
  refine fn_pure Tryd.F46 (Nat.le_of_ble_eq_true rfl) ?_; unfold Tryd.ac46
  repeat' (first
    | (apply Awp.sreg; (case hn => (simp only [List.length_cons, List.length_nil, Nat.reduceAdd] <;> rfl)))
    | (refine st_nil ?_)
    | (apply st_a; (case hc => rfl); (case he => (simp only [go_sem, *] <;> rfl)); (case hu => (simp only [updL_nil, updL_cons] <;> rfl)); (case hp => first | trivial | assumption | omega | (simp; done) | (simp; omega) | (simp [*]; done) | ((repeat' (refine And.intro ?_ ?_)) <;> first | trivial | assumption | omega | (simp; done) | (simp; omega) | (simp [*]; done))))
    | refine Awp.block ?_
    | refine Awp.seq ?_)
  · refine Awp.loop (fun i : Nat => i ≤ l.length ∧ ∀ j, j < i → nameB (l.getD j ⟨#[]⟩) = true) 20 (fun i => mkS [(0, .sl (strs l)), (3, .v (.int .i64 ((l.length : Int) - 1 + sizes (l.take i)))), (9, .sl (strs l)), (10, .v (.int .i64 l.length)), (11, .v (.int .i64 i))] []) (fun i => l.length - i) 0 (by simp) ?_ ?_
    · have e0 : sizes [] = 0 := rfl
      (apply Ghost.mk [] []; (case hdead => rfl); (case hinj => rfl); (case hV => (simp only [go_sem, *]) <;> (repeat' (first | refine And.intro ?_ ?_ | exact View.int (by first | rfl | omega | (simp; done) | (rw [wrap_i64] <;> (try simp only [Int.natCast_add]) <;> omega) | (simp [*]; done))))); (case hB => (simp only [go_sem, *]) <;> (repeat' (first | skip; done))))
    · intro i ⟨hi, hj⟩
      have hz1 := sizes_take l i
      have hz2 := sizes_take l (i + 1)
      by_cases hlt : i < l.length
      · have hlt' : (i : Int) < l.length := by omega
        have hn := sizes_next l i hlt
        repeat' (first
    | (apply Awp.sreg; (case hn => (simp only [List.length_cons, List.length_nil, Nat.reduceAdd] <;> rfl)))
    | (refine st_nil ?_)
    | (apply st_a; (case hc => rfl); (case he => (simp only [go_sem, *] <;> rfl)); (case hu => (simp only [updL_nil, updL_cons] <;> rfl)); (case hp => first | trivial | assumption | omega | (simp; done) | (simp; omega) | (simp [*]; done) | ((repeat' (refine And.intro ?_ ?_)) <;> first | trivial | assumption | omega | (simp; done) | (simp; omega) | (simp [*]; done))))
    | (apply st_c; (case hc => (simp only [go_sem, *] <;> rfl)); (case hl => (simp only [go_sem, *] <;> rfl)); (case hn => (simp only [go_sem, *] <;> rfl)); (case hp => first | exact name_ok _ | (have hXz := name_ok _; simp only [go_sem, *] at hXz; exact hXz)))
    | (apply Awp.reg; (case hn => (simp only [List.length_cons, List.length_nil, Nat.reduceAdd] <;> rfl)))
    | (refine Awp.ret ?_; try simp only [go_sem, *])
    | (refine Awp.skip ?_; try simp only [go_sem, *])
    | refine Awp.block ?_
    | (apply Awp.cond; (case hc => (simp only [go_sem, *] <;> rfl)); all_goals (intro hg; (try simp only [Bool.not_true, Bool.not_false, reduceCtorEq] at hg); (try have hg' := hg); (try simp only [decide_eq_true_eq, decide_eq_false_iff_not, Bool.and_eq_true, Bool.or_eq_false_iff, bne_iff_ne, bne_eq_false_iff_eq, beq_iff_eq, beq_eq_false_iff_ne, Int.not_lt, Int.not_le, Int.ofNat_lt, Int.ofNat_le, Int.natCast_inj] at hg')))
    | refine Awp.seq ?_)
        · exact Lower.bool (by rw [namesB, all_bad hlt (by simpa using hg')]; simp)
        · refine ⟨i + 1, ⟨by omega, ltSucc hj (by simpa using hg')⟩, by omega, ?_⟩
          have e1 : IntKind.i64.wrap ((l.length : Int) - 1 + (sizes (l.take i) : Int) + ((l.getD i ⟨#[]⟩).size : Int)) = (l.length : Int) - 1 + (sizes (l.take (i + 1)) : Int) := by rw [wrap_i64] <;> omega
          (apply Ghost.mk [] []; (case hdead => rfl); (case hinj => rfl); (case hV => (simp only [go_sem, *]) <;> (repeat' (first | exact View.int (by first | rfl | omega | (simp; done) | (rw [wrap_i64] <;> (try simp only [Int.natCast_add]) <;> omega) | (simp [*]; done))))); (case hB => (simp only [go_sem, *]) <;> (repeat' (first | skip; done))))
      · have hlt' : ¬ (i : Int) < l.length := by omega
        have e1 : l.take i = l := List.take_of_length_le (by omega)
        repeat' (first
    | (apply Awp.sreg; (case hn => (simp only [List.length_cons, List.length_nil, Nat.reduceAdd] <;> rfl)))
    | (refine st_nil ?_)
    | (apply st_a; (case hc => rfl); (case he => (simp only [go_sem, *] <;> rfl)); (case hu => (simp only [updL_nil, updL_cons] <;> rfl)); (case hp => first | trivial | assumption | omega | (simp; done) | (simp; omega) | (simp [*]; done) | ((repeat' (refine And.intro ?_ ?_)) <;> first | trivial | assumption | omega | (simp; done) | (simp; omega) | (simp [*]; done))))
    | (apply st_m; (case hc => rfl); (case hg => (simp only [go_sem, *] <;> rfl)); (case he => (intro hQz; (try simp only [wantB_t, wantB_f, Bool.and_eq_true, Bool.not_eq_true', Bool.not_true, Bool.not_false, and_true, true_and] at hQz); simp only [go_sem, *] <;> rfl)); (case hp => (intro hQz; (try simp only [wantB_t, wantB_f, Bool.and_eq_true, Bool.not_eq_true', Bool.or_eq_false_iff, decide_eq_true_eq, decide_eq_false_iff_not, beq_iff_eq, beq_eq_false_iff_ne, bne_iff_ne, bne_eq_false_iff_eq, Int.not_lt, Int.not_le, Int.ofNat_lt, Int.ofNat_le] at hQz); first | trivial | assumption | omega | (simp; done) | (simp; omega) | (simp [*]; done) | ((repeat' (refine And.intro ?_ ?_)) <;> first | trivial | assumption | omega | (simp; done) | (simp; omega) | (simp [*]; done)))))
    | (refine Awp.ret ?_; try simp only [go_sem, *])
    | (refine Awp.exit ?_; try simp only [go_sem, *])
    | (apply Awp.cond; (case hc => (simp only [go_sem, *] <;> rfl)); all_goals (intro hg; (try simp only [Bool.not_true, Bool.not_false, reduceCtorEq] at hg); (try have hg' := hg); (try simp only [decide_eq_true_eq, decide_eq_false_iff_not, Bool.and_eq_true, Bool.or_eq_false_iff, bne_iff_ne, bne_eq_false_iff_eq, beq_iff_eq, beq_eq_false_iff_ne, Int.not_lt, Int.not_le, Int.ofNat_lt, Int.ofNat_le, Int.natCast_inj] at hg')))
    | refine Awp.seq ?_)
        all_goals exact Lower.bool (by rw [namesB, all_end hj (by omega)]; simp)
theorem parF_sizes (s : ByteArray) : ∀ (n i fr : Nat), i + n = s.size + 1 → fr ≤ i → 0 < n → sizes (parF s n i fr) + (parF s n i fr).length = s.size + 1 - fr
  | 0, _, _, _, _, h => by omega
  | n + 1, i, fr, h1, h2, _ => by
    rw [parF]
    by_cases hn : n = 0
    · subst hn
      have : i = s.size := by omega
      subst this
      simp only [beq_self_eq_true, Bool.true_or, if_true, parF]
      simp [sizes, ext_size]
      omega
    · split
      · have := parF_sizes s n (i + 1) (i + 1) (by omega) (Nat.le_refl _) (by omega)
        simp only [sizes, List.map_cons, List.sum_cons, List.length_cons, ext_size] at this ⊢
        omega
      · exact parF_sizes s n (i + 1) fr (by omega) (by omega) (by omega)
theorem parts_sizes (s : ByteArray) : sizes (parts s) + (parts s).length = s.size + 1 := parF_sizes s (s.size + 1) 0 0 (by omega) (Nat.le_refl _) (by omega)
theorem parF_pos (s : ByteArray) : ∀ (n i fr : Nat), i + n = s.size + 1 → 0 < n → 0 < (parF s n i fr).length
  | 0, _, _, _, h => by omega
  | n + 1, i, fr, h1, _ => by
    rw [parF]
    split
    · simp
    · rename_i hc
      by_cases hn : n = 0
      · subst hn
        have : i = s.size := by omega
        subst this
        simp at hc
      · exact parF_pos s n (i + 1) fr (by omega) (by omega)
theorem parts_pos (s : ByteArray) : 0 < (parts s).length := parF_pos s (s.size + 1) 0 0 (by omega) (by omega)
def idB (s : ByteArray) : Bool := decide (s.size ≤ 64) && decide ((parts s).length ≤ 8) && (parts s).all nameB
theorem names_id (s : ByteArray) : (decide ((s.size : Int) ≤ 64) && namesB (parts s)) = idB s := by
  have h1 := parts_sizes s
  have h2 := parts_pos s
  unfold idB namesB
  rw [Bool.eq_iff_iff]
  simp only [Bool.and_eq_true, decide_eq_true_eq]
  constructor
  · rintro ⟨h3, ⟨⟨h4, h5⟩, h6⟩, h7⟩
    exact ⟨⟨by omega, by omega⟩, h4⟩
  · rintro ⟨⟨h3, h6⟩, h4⟩
    exact ⟨by omega, ⟨⟨h4, by omega⟩, by omega⟩, by omega⟩
theorem isid_ok (s : ByteArray) : Pure Tryd.prog 31 [.v (.string s)] (.v (.bool (idB s))) := by
  rw [← names_id]
  have h1 := parts_sizes s
  by_cases hs : s.size ≤ 64
  · refine fn_pure Tryd.F31 (Nat.le_of_ble_eq_true rfl) ?_; unfold Tryd.ac31
    repeat' (first
    | (apply Awp.sreg; (case hn => (simp only [List.length_cons, List.length_nil, Nat.reduceAdd] <;> rfl)))
    | (refine st_nil ?_)
    | (apply st_a; (case hc => rfl); (case he => (simp only [go_sem, *] <;> rfl)); (case hu => (simp only [updL_nil, updL_cons] <;> rfl)); (case hp => first | trivial | assumption | omega | (simp; done) | (simp; omega) | (simp [*]; done) | ((repeat' (refine And.intro ?_ ?_)) <;> first | trivial | assumption | omega | (simp; done) | (simp; omega) | (simp [*]; done))))
    | (apply st_m; (case hc => rfl); (case hg => (simp only [go_sem, *] <;> rfl)); (case he => (intro hQz; (try simp only [wantB_t, wantB_f, Bool.and_eq_true, Bool.not_eq_true', Bool.not_true, Bool.not_false, and_true, true_and] at hQz); simp only [go_sem, *] <;> rfl)); (case hp => (intro hQz; (try simp only [wantB_t, wantB_f, Bool.and_eq_true, Bool.not_eq_true', Bool.or_eq_false_iff, decide_eq_true_eq, decide_eq_false_iff_not, beq_iff_eq, beq_eq_false_iff_ne, bne_iff_ne, bne_eq_false_iff_eq, Int.not_lt, Int.not_le, Int.ofNat_lt, Int.ofNat_le] at hQz); first | trivial | assumption | omega | (simp; done) | (simp; omega) | (simp [*]; done) | ((repeat' (refine And.intro ?_ ?_)) <;> first | trivial | assumption | omega | (simp; done) | (simp; omega) | (simp [*]; done)))))
    | (apply st_mc; (case hop => rfl); (case hg => (simp only [go_sem, *] <;> rfl)); (case hc => (intro hQz; (try simp only [wantB_t, wantB_f, Bool.and_eq_true, Bool.not_eq_true', Bool.not_true, Bool.not_false, and_true, true_and] at hQz); simp only [go_sem, *] <;> rfl)); (case hl => (intro hQz; (try simp only [wantB_t, wantB_f, Bool.and_eq_true, Bool.not_eq_true', Bool.not_true, Bool.not_false, and_true, true_and] at hQz); simp only [go_sem, *] <;> rfl)); (case hn => (intro hQz; (try simp only [wantB_t, wantB_f, Bool.and_eq_true, Bool.not_eq_true', Bool.not_true, Bool.not_false, and_true, true_and] at hQz); simp only [go_sem, *] <;> rfl)); (case hp => intro hQz; first | exact split_ok s (by omega) | (have hXz := split_ok s (by omega); simp only [go_sem, *] at hXz; exact hXz)))
    | (apply st_mc; (case hop => rfl); (case hg => (simp only [go_sem, *] <;> rfl)); (case hc => (intro hQz; (try simp only [wantB_t, wantB_f, Bool.and_eq_true, Bool.not_eq_true', Bool.not_true, Bool.not_false, and_true, true_and] at hQz); simp only [go_sem, *] <;> rfl)); (case hl => (intro hQz; (try simp only [wantB_t, wantB_f, Bool.and_eq_true, Bool.not_eq_true', Bool.not_true, Bool.not_false, and_true, true_and] at hQz); simp only [go_sem, *] <;> rfl)); (case hn => (intro hQz; (try simp only [wantB_t, wantB_f, Bool.and_eq_true, Bool.not_eq_true', Bool.not_true, Bool.not_false, and_true, true_and] at hQz); simp only [go_sem, *] <;> rfl)); (case hp => intro hQz; first | exact names_ok (parts s) (by omega) (by omega) | (have hXz := names_ok (parts s) (by omega) (by omega); simp only [go_sem, *] at hXz; exact hXz)))
    | (refine Awp.ret ?_; try simp only [go_sem, *]))
    all_goals repeat' (first | exact Lower.bool (by first | rfl | (simp only [true_and, Bool.true_and, Bool.false_and, Bool.and_true, Bool.and_false, Bool.true_or, Bool.false_or, reduceIte, Bool.false_eq_true, *]; done) | (simp only [true_and, reduceIte, Bool.false_eq_true, *] <;> rfl) | (simp [true_and]; done) | (simp_all [true_and]; done) | omega))
  · have hs' : ¬ (s.size : Int) ≤ 64 := by omega
    refine fn_pure Tryd.F31 (Nat.le_of_ble_eq_true rfl) ?_; unfold Tryd.ac31
    repeat' (first
    | (apply Awp.sreg; (case hn => (simp only [List.length_cons, List.length_nil, Nat.reduceAdd] <;> rfl)))
    | (refine st_nil ?_)
    | (apply st_a; (case hc => rfl); (case he => (simp only [go_sem, *] <;> rfl)); (case hu => (simp only [updL_nil, updL_cons] <;> rfl)); (case hp => first | trivial | assumption | omega | (simp; done) | (simp; omega) | (simp [*]; done) | ((repeat' (refine And.intro ?_ ?_)) <;> first | trivial | assumption | omega | (simp; done) | (simp; omega) | (simp [*]; done))))
    | (apply st_m; (case hc => rfl); (case hg => (simp only [go_sem, *] <;> rfl)); (case he => (intro hQz; (try simp only [wantB_t, wantB_f, Bool.and_eq_true, Bool.not_eq_true', Bool.not_true, Bool.not_false, and_true, true_and] at hQz); simp only [go_sem, *] <;> rfl)); (case hp => (intro hQz; (try simp only [wantB_t, wantB_f, Bool.and_eq_true, Bool.not_eq_true', Bool.or_eq_false_iff, decide_eq_true_eq, decide_eq_false_iff_not, beq_iff_eq, beq_eq_false_iff_ne, bne_iff_ne, bne_eq_false_iff_eq, Int.not_lt, Int.not_le, Int.ofNat_lt, Int.ofNat_le] at hQz); first | trivial | assumption | omega | (simp; done) | (simp; omega) | (simp [*]; done) | ((repeat' (refine And.intro ?_ ?_)) <;> first | trivial | assumption | omega | (simp; done) | (simp; omega) | (simp [*]; done)))))
    | (apply st_g; (case hv => (simp only [go_sem, *] <;> rfl)); all_goals (intro hg; (try simp only [Bool.not_true, Bool.not_false, reduceCtorEq] at hg); (try have hg' := hg); (try simp only [decide_eq_true_eq, decide_eq_false_iff_not, Bool.and_eq_true, Bool.or_eq_false_iff, bne_iff_ne, bne_eq_false_iff_eq, beq_iff_eq, beq_eq_false_iff_ne, Int.not_lt, Int.not_le, Int.ofNat_lt, Int.ofNat_le, Int.natCast_inj] at hg')))
    | (refine Awp.ret ?_; try simp only [go_sem, *]))
    all_goals repeat' (first | exact Lower.bool (by first | rfl | (simp only [true_and, Bool.true_and, Bool.false_and, Bool.and_true, Bool.and_false, Bool.true_or, Bool.false_or, reduceIte, Bool.false_eq_true, *]; done) | (simp only [true_and, reduceIte, Bool.false_eq_true, *] <;> rfl) | (simp [true_and]; done) | (simp_all [true_and]; done) | omega))
theorem risid_ok (s : ByteArray) (hs : s.size < 1000000) : Pure Tryd.prog 16 [.v (.string s)] (.v (.bool (idB s))) := by
  have h1 := parts_sizes s
  refine fn_pure Tryd.F16 (Nat.le_of_ble_eq_true rfl) ?_; unfold Tryd.ac16
  repeat' (first
    | (apply Awp.sreg; (case hn => (simp only [List.length_cons, List.length_nil, Nat.reduceAdd] <;> rfl)))
    | (refine st_nil ?_)
    | (apply st_a; (case hc => rfl); (case he => (simp only [go_sem, *] <;> rfl)); (case hu => (simp only [updL_nil, updL_cons] <;> rfl)); (case hp => first | trivial | assumption | omega | (simp; done) | (simp; omega) | (simp [*]; done) | ((repeat' (refine And.intro ?_ ?_)) <;> first | trivial | assumption | omega | (simp; done) | (simp; omega) | (simp [*]; done))))
    | (apply st_m; (case hc => rfl); (case hg => (simp only [go_sem, *] <;> rfl)); (case he => (intro hQz; (try simp only [wantB_t, wantB_f, Bool.and_eq_true, Bool.not_eq_true', Bool.not_true, Bool.not_false, and_true, true_and] at hQz); simp only [go_sem, *] <;> rfl)); (case hp => (intro hQz; (try simp only [wantB_t, wantB_f, Bool.and_eq_true, Bool.not_eq_true', Bool.or_eq_false_iff, decide_eq_true_eq, decide_eq_false_iff_not, beq_iff_eq, beq_eq_false_iff_ne, bne_iff_ne, bne_eq_false_iff_eq, Int.not_lt, Int.not_le, Int.ofNat_lt, Int.ofNat_le] at hQz); first | trivial | assumption | omega | (simp; done) | (simp; omega) | (simp [*]; done) | ((repeat' (refine And.intro ?_ ?_)) <;> first | trivial | assumption | omega | (simp; done) | (simp; omega) | (simp [*]; done)))))
    | (apply st_co; (case hc => (simp only [go_sem, *] <;> rfl)); (case hl => (simp only [go_sem, *] <;> rfl)); (case hn => (simp only [go_sem, *] <;> rfl)); (case hp => first | exact parts_ok s hs | (have hXz := parts_ok s hs; simp only [go_sem, *] at hXz; exact hXz)))
    | (refine Awp.ret ?_; try simp only [go_sem, *])
    | (refine Awp.skip ?_; try simp only [go_sem, *])
    | refine Awp.block ?_
    | (apply Awp.cond; (case hc => (simp only [go_sem, *] <;> rfl)); all_goals (intro hg; (try simp only [Bool.not_true, Bool.not_false, reduceCtorEq] at hg); (try have hg' := hg); (try simp only [decide_eq_true_eq, decide_eq_false_iff_not, Bool.and_eq_true, Bool.or_eq_false_iff, bne_iff_ne, bne_eq_false_iff_eq, beq_iff_eq, beq_eq_false_iff_ne, Int.not_lt, Int.not_le, Int.ofNat_lt, Int.ofNat_le, Int.natCast_inj] at hg')))
    | refine Awp.seq ?_)
  · refine Lower.bool ?_
    simp only [Bool.or_eq_true, decide_eq_true_eq] at hg
    unfold idB
    symm
    rw [Bool.eq_false_iff]
    simp only [ne_eq, Bool.and_eq_true, decide_eq_true_eq]
    omega
  · have h0 := hg'
    refine Awp.loop (fun i : Nat => i ≤ (parts s).length ∧ ∀ j, j < i → nameB ((parts s).getD j ⟨#[]⟩) = true) 3 (fun i => mkS [(3, .own 2), (4, .v (.int .i64 i))] [(2, .row (strs (parts s)) 1 9)]) (fun i => (parts s).length - i) 0 (by simp) ?_ ?_
    · (apply Ghost.mk [] []; (case hdead => rfl); (case hinj => rfl); (case hV => (simp only [go_sem, *]) <;> (repeat' (first | refine And.intro ?_ ?_ | exact View.int (by first | rfl | omega | (simp; done) | (rw [wrap_i64] <;> (try simp only [Int.natCast_add]) <;> omega) | (simp [*]; done)) | exact .own rfl (by decide)))); (case hB => (simp only [go_sem, *]) <;> (repeat' (first | exact ⟨_, rfl, .rowE (by first | rfl | omega | (simp; done) | (rw [wrap_i64] <;> (try simp only [Int.natCast_add]) <;> omega) | (simp [*]; done))⟩))))
    · intro i ⟨hi, hj⟩
      by_cases hlt : i < (parts s).length
      · have hlt' : (i : Int) < (parts s).length := by omega
        repeat' (first
    | (apply Awp.sreg; (case hn => (simp only [List.length_cons, List.length_nil, Nat.reduceAdd] <;> rfl)))
    | (refine st_nil ?_)
    | (apply st_a; (case hc => rfl); (case he => (simp only [go_sem, *] <;> rfl)); (case hu => (simp only [updL_nil, updL_cons] <;> rfl)); (case hp => first | trivial | assumption | omega | (simp; done) | (simp; omega) | (simp [*]; done) | ((repeat' (refine And.intro ?_ ?_)) <;> first | trivial | assumption | omega | (simp; done) | (simp; omega) | (simp [*]; done))))
    | (apply st_c; (case hc => (simp only [go_sem, *] <;> rfl)); (case hl => (simp only [go_sem, *] <;> rfl)); (case hn => (simp only [go_sem, *] <;> rfl)); (case hp => first | exact rname_ok _ | (have hXz := rname_ok _; simp only [go_sem, *] at hXz; exact hXz)))
    | (apply Awp.reg; (case hn => (simp only [List.length_cons, List.length_nil, Nat.reduceAdd] <;> rfl)))
    | (refine Awp.ret ?_; try simp only [go_sem, *])
    | (refine Awp.skip ?_; try simp only [go_sem, *])
    | refine Awp.block ?_
    | (apply Awp.cond; (case hc => (simp only [go_sem, *] <;> rfl)); all_goals (intro hg; (try simp only [Bool.not_true, Bool.not_false, reduceCtorEq] at hg); (try have hg' := hg); (try simp only [decide_eq_true_eq, decide_eq_false_iff_not, Bool.and_eq_true, Bool.or_eq_false_iff, bne_iff_ne, bne_eq_false_iff_eq, beq_iff_eq, beq_eq_false_iff_ne, Int.not_lt, Int.not_le, Int.ofNat_lt, Int.ofNat_le, Int.natCast_inj] at hg')))
    | refine Awp.seq ?_)
        · exact Lower.bool (by rw [idB, all_bad hlt (by simpa using hg')]; simp)
        · refine ⟨i + 1, ⟨by omega, ltSucc hj (by simpa using hg')⟩, by omega, ?_⟩
          (apply Ghost.mk [] []; (case hdead => rfl); (case hinj => rfl); (case hV => (simp only [go_sem, *]) <;> (repeat' (first | refine And.intro ?_ ?_ | exact View.int (by first | rfl | omega | (simp; done) | (rw [wrap_i64] <;> (try simp only [Int.natCast_add]) <;> omega) | (simp [*]; done)) | exact .own rfl (by decide)))); (case hB => (simp only [go_sem, *]) <;> (repeat' (first | exact ⟨_, rfl, .rowE (by first | rfl | omega | (simp; done) | (rw [wrap_i64] <;> (try simp only [Int.natCast_add]) <;> omega) | (simp [*]; done))⟩))))
      · have hlt' : ¬ (i : Int) < (parts s).length := by omega
        repeat' (first
    | (apply Awp.sreg; (case hn => (simp only [List.length_cons, List.length_nil, Nat.reduceAdd] <;> rfl)))
    | (refine st_nil ?_)
    | (apply st_a; (case hc => rfl); (case he => (simp only [go_sem, *] <;> rfl)); (case hu => (simp only [updL_nil, updL_cons] <;> rfl)); (case hp => first | trivial | assumption | omega | (simp; done) | (simp; omega) | (simp [*]; done) | ((repeat' (refine And.intro ?_ ?_)) <;> first | trivial | assumption | omega | (simp; done) | (simp; omega) | (simp [*]; done))))
    | (refine Awp.ret ?_; try simp only [go_sem, *])
    | (refine Awp.exit ?_; try simp only [go_sem, *])
    | (apply Awp.cond; (case hc => (simp only [go_sem, *] <;> rfl)); all_goals (intro hg; (try simp only [Bool.not_true, Bool.not_false, reduceCtorEq] at hg); (try have hg' := hg); (try simp only [decide_eq_true_eq, decide_eq_false_iff_not, Bool.and_eq_true, Bool.or_eq_false_iff, bne_iff_ne, bne_eq_false_iff_eq, beq_iff_eq, beq_eq_false_iff_ne, Int.not_lt, Int.not_le, Int.ofNat_lt, Int.ofNat_le, Int.natCast_inj] at hg')))
    | refine Awp.seq ?_)
        all_goals refine Lower.bool ?_
        all_goals rw [idB, all_end hj (by omega)]
        all_goals simp
        all_goals omega
end Go.Proofs
end
section
set_option linter.unusedVariables false
set_option linter.unusedSimpArgs false
namespace Go.Proofs
open Go Go.Ab Go.RowKit
set_option maxHeartbeats 1000000
set_option maxRecDepth 100000
set_option linter.unusedSimpArgs false
set_option linter.unusedVariables false
def sortI (l : List Int) : List Int := l.mergeSort fun x y => decide (x ≤ y)
theorem sortI_len (l : List Int) : (sortI l).length = l.length := List.length_mergeSort _
theorem fits_ints {st : Nat → Prop} {w : World} {l : List Int} {e : TypeId} {c : Value} {xs : List Value} (h : RowFits st w (ints l) 1 e c xs) : xs = l.map (Value.int .i64) := by
  have hlen : xs.length = l.length := by rw [h.row.len, ints_len]; omega
  apply List.ext_getElem (by simpa using hlen)
  intro i h1 h2
  have hi : i < (ints l).length := by rw [ints_len]; omega
  have h3 := h.cell i 0 hi (by omega)
  rw [ints_at l i (by omega)] at h3
  simp only [av_zero, Nat.mul_one, Nat.add_zero, cv, List.getD_eq_getElem?_getD, List.getElem?_eq_getElem h1, Option.getD_some] at h3
  generalize xs[i] = q at h3 ⊢
  cases h3
  have : i < l.length := by omega
  simp [this]
theorem ints_fits {st : Nat → Prop} {w : World} {l : List Int} {e : TypeId} {c : Value} (h : RowRep w e 1 c l.length (l.map (Value.int .i64))) : RowFits st w (ints l) 1 e c (l.map (Value.int .i64)) := by
  refine ⟨by simp [ints], by omega, by rw [ints_len]; exact h, by simp [Value.oneCell'], fun i j hi hj => ?_⟩
  rw [ints_len] at hi
  obtain rfl : j = 0 := by omega
  rw [ints_at l i hi]
  have e1 : cv (l.map (Value.int .i64)) (i * 1 + 0) = .int .i64 (l.getD i 0) := by
    simp [cv, List.getD_eq_getElem?_getD, hi]
  rw [e1]
  exact .v _
theorem sort_cc (l : List Int) (b nm : Nat) (e : TypeId) (hl : l.length < 1000000) : CallC Tryd.prog 48 [.own b] [(b, .row (ints l) 1 e)] nm (.tup []) [(b, some (.row (ints (sortI l)) 1 e))] := by
  refine ⟨⟨_, Tryd.func48, by kernel_rfl, by kernel_rfl⟩, fun prov β w cs hn hb hi hv => ?_⟩
  have hlk : ∀ n, updL (listH [(b, Blk.row (ints l) 1 e)]) [(b, some (Blk.row (ints (sortI l)) 1 e))] n = if n = b then some (.row (ints (sortI l)) 1 e) else none := by
    intro n; simp only [updL, upd, listH]; split <;> simp
  have hB := hb b (.row (ints l) 1 e) (by simp [listH])
  obtain ⟨xs, hf⟩ := hB
  obtain rfl := fits_ints hf
  obtain ⟨hlen, hv⟩ := hv
  match cs, hlen with
  | [c], _ =>
  have h1 := hv 0 (by simp)
  simp only [av_zero, cv, List.getD_cons_zero] at h1
  obtain ⟨rfl, _⟩ := h1.own_inv
  have tail : ∀ w', Value.tuple #[] = Value.tuple #[] → w.grownBy w' (blkOf (β b)) → RowRep w' e 1 (β b) (sortI l).length ((sortI l).map (Value.int .i64)) →
      ∃ c β', Ending.returned (Value.tuple #[]) = .returned c ∧ w'.os = w.os ∧ w'.tape = w.tape ∧ w'.output = w.output ∧ w.heap.size ≤ w'.heap.size ∧ Grows β β' ∧ (∀ n, n ≠ nm → β' n = β n) ∧
      (∀ g, g < w.heap.size → (∀ n b', listH [(b, Blk.row (ints l) 1 e)] n = some b' → n ∈ [(b, some (Blk.row (ints (sortI l)) 1 e))].map (·.1) → blkOf (β n) ≠ some g) → w'.heap[g]? = w.heap[g]?) ∧
      SimV (stb (fun g => prov g ∨ w.heap.size ≤ g) w' β' (updL (listH [(b, Blk.row (ints l) 1 e)]) [(b, some (Blk.row (ints (sortI l)) 1 e))])) β' w' (.tup []) c ∧
      (∀ n b', updL (listH [(b, Blk.row (ints l) 1 e)]) [(b, some (Blk.row (ints (sortI l)) 1 e))] n = some b' → n ∈ [(b, some (Blk.row (ints (sortI l)) 1 e))].map (·.1) → BlkRep (stb (fun g => prov g ∨ w.heap.size ≤ g) w' β' (updL (listH [(b, Blk.row (ints l) 1 e)]) [(b, some (Blk.row (ints (sortI l)) 1 e))])) β' w' b' (β' n) ∧
        ∀ g, blkOf (β' n) = some g → w.heap.size ≤ g ∨ ∃ m b', listH [(b, Blk.row (ints l) 1 e)] m = some b' ∧ m ∈ [(b, some (Blk.row (ints (sortI l)) 1 e))].map (·.1) ∧ blkOf (β m) = some g) ∧
      Inj β' (updL (listH [(b, Blk.row (ints l) 1 e)]) [(b, some (Blk.row (ints (sortI l)) 1 e))]) := by
    intro w' _ hg hr
    refine ⟨_, β, rfl, hg.os, hg.tape, hg.output, hg.size, Grows.refl _, fun _ _ => rfl, fun g hgl hno => ?_, .pure (.tup [] [] rfl (fun j hj => by simp at hj)), fun n b' hb' _ => ?_, ?_⟩
    · exact hg.block g hgl (fun e' => hno b (.row (ints l) 1 e) (by simp [listH]) (by simp) e'.symm)
    · rw [hlk] at hb'
      split at hb'
      · rename_i hnb; subst hnb
        simp at hb'; subst hb'
        exact ⟨⟨_, ints_fits hr⟩, fun g hgb => .inr ⟨n, .row (ints l) 1 e, by simp [listH], by simp, hgb⟩⟩
      · cases hb'
    · intro n m b1 b2 g h1 h2 _ _
      rw [hlk] at h1 h2
      split at h1
      · split at h2
        · simp_all
        · cases h2
      · cases h1
  rcases hf.row with ⟨a, hc, h0, hx⟩ | ⟨g, cap, hc, h0, hrow⟩
  · have hnil : l = [] := by rw [ints_len] at h0; exact List.eq_nil_of_length_eq_zero h0
    subst hnil
    rw [hc]
    refine (Tryd.slices_Sort_int_none a 0 w).mono fun e' w' ⟨he, hw⟩ => ?_
    subst he; subst hw
    have := tail w' rfl ⟨rfl, rfl, rfl, Nat.le_refl _, fun _ _ _ => rfl⟩ (.inl ⟨a, hc, by simp [sortI], by simp [sortI]⟩)
    exact this
  · rcases hrow.2 with ⟨h', _⟩ | ⟨g', cap', cur, h', _, hg, hn1, hn2, hn3, hn4⟩
    · rw [hc] at h'; cases h'
    · rw [hc] at h'
      simp only [Value.slice.injEq, Option.some.injEq, Addr.mk.injEq, and_true, true_and] at h'
      obtain ⟨rfl, rfl⟩ := h'
      rw [ints_len] at hn1 hn4 hc
      rw [Nat.mul_one] at hn4
      rw [hc]
      have hlt : g < w.heap.size := (Array.getElem?_eq_some_iff.1 hg).1
      refine (Tryd.slices_Sort_int g 0 cap l w (holds_of_blockI hg hn4) hlt (by omega)).mono fun e' w' ⟨he, n, os, hw⟩ => ?_
      subst he; subst hw
      refine tail _ rfl ?_ ?_
      · have : blkOf (β b) = some g := by rw [hc]; simp [blkOf]; omega
        rw [this]
        exact grownBy_sortedI _
      · refine .inr ⟨g, cap, by rw [hc, sortI_len], h0, ?_⟩
        have := ownsRow_sortedI (w := w) (base := 0) (g := g) (cap := cap) (n := n) (e := e) (os := os) (cur := cur) (ss := l) (ts := sortI l) (sortI_len l) (Nat.zero_le _) hg hn1 hn2 hn3
        rw [hc, sortI_len]
        exact this
end Go.Proofs
end
section
set_option linter.unusedVariables false
set_option linter.unusedSimpArgs false
namespace Go.Proofs
open Go Go.Ab Go.RowKit
set_option maxHeartbeats 1000000
theorem compact_len (l : List Int) : (Lib.compact l).length ≤ l.length := by
  unfold Lib.compact Lib.compactUpTo
  rw [List.length_map]
  exact Nat.le_trans (List.length_filter_le _ _) (by simp)
theorem compact_cc (l : List Int) (b nm : Nat) (e : TypeId) (hnb : nm ≠ b) (hl : l.length < 1000000) : CallC Tryd.prog 49 [.own b] [(b, .row (ints l) 1 e)] nm (.own nm) [(b, none), (nm, some (.row (ints (Lib.compact l)) 1 e))] := by
  refine ⟨⟨_, Tryd.func49, by kernel_rfl, by kernel_rfl⟩, fun prov β w cs hn hb hi hv => ?_⟩
  have hlk : ∀ n, updL (listH [(b, Blk.row (ints l) 1 e)]) [(b, none), (nm, some (Blk.row (ints (Lib.compact l)) 1 e))] n = if n = nm then some (.row (ints (Lib.compact l)) 1 e) else none := by
    intro n; simp only [updL, upd, listH]; split
    · rfl
    · split <;> rfl
  have hB := hb b (.row (ints l) 1 e) (by simp [listH])
  obtain ⟨xs, hf⟩ := hB
  obtain rfl := fits_ints hf
  obtain ⟨hlen, hv⟩ := hv
  match cs, hlen with
  | [c], _ =>
  have h1 := hv 0 (by simp)
  simp only [av_zero, cv, List.getD_cons_zero] at h1
  obtain ⟨rfl, _⟩ := h1.own_inv
  have hgr : ∀ c', Grows β (upd β nm c') := fun c' k hk => by
    unfold upd; split
    · rename_i h; subst h; exact absurd hn hk
    · rfl
  have tail : ∀ w' c', (∃ a n cap, c' = .slice a n cap) → w.grownBy w' (blkOf (β b)) → RowRep w' e 1 c' (Lib.compact l).length ((Lib.compact l).map (Value.int .i64)) → (∀ g, blkOf c' = some g → blkOf (β b) = some g) →
      ∃ c β', Ending.returned c' = .returned c ∧ w'.os = w.os ∧ w'.tape = w.tape ∧ w'.output = w.output ∧ w.heap.size ≤ w'.heap.size ∧ Grows β β' ∧ (∀ n, n ≠ nm → β' n = β n) ∧
      (∀ g, g < w.heap.size → (∀ n b', listH [(b, Blk.row (ints l) 1 e)] n = some b' → n ∈ [(b, none), (nm, some (Blk.row (ints (Lib.compact l)) 1 e))].map (·.1) → blkOf (β n) ≠ some g) → w'.heap[g]? = w.heap[g]?) ∧
      SimV (stb (fun g => prov g ∨ w.heap.size ≤ g) w' β' (updL (listH [(b, Blk.row (ints l) 1 e)]) [(b, none), (nm, some (Blk.row (ints (Lib.compact l)) 1 e))])) β' w' (.own nm) c ∧
      (∀ n b', updL (listH [(b, Blk.row (ints l) 1 e)]) [(b, none), (nm, some (Blk.row (ints (Lib.compact l)) 1 e))] n = some b' → n ∈ [(b, none), (nm, some (Blk.row (ints (Lib.compact l)) 1 e))].map (·.1) → BlkRep (stb (fun g => prov g ∨ w.heap.size ≤ g) w' β' (updL (listH [(b, Blk.row (ints l) 1 e)]) [(b, none), (nm, some (Blk.row (ints (Lib.compact l)) 1 e))])) β' w' b' (β' n) ∧
        ∀ g, blkOf (β' n) = some g → w.heap.size ≤ g ∨ ∃ m b', listH [(b, Blk.row (ints l) 1 e)] m = some b' ∧ m ∈ [(b, none), (nm, some (Blk.row (ints (Lib.compact l)) 1 e))].map (·.1) ∧ blkOf (β m) = some g) ∧
      Inj β' (updL (listH [(b, Blk.row (ints l) 1 e)]) [(b, none), (nm, some (Blk.row (ints (Lib.compact l)) 1 e))]) := by
    intro w' c' ⟨a, n0, cap, hc'⟩ hg hr hbk
    refine ⟨_, upd β nm c', rfl, hg.os, hg.tape, hg.output, hg.size, hgr c', fun n hne => by simp [upd, hne], fun g hgl hno => ?_, ?_, fun n b' hb' _ => ?_, ?_⟩
    · exact hg.block g hgl (fun e' => hno b (.row (ints l) 1 e) (by simp [listH]) (by simp) e'.symm)
    · subst hc'; exact .own nm (by simp [upd])
    · rw [hlk] at hb'
      split at hb'
      · rename_i hnn; subst hnn
        simp at hb'; subst hb'
        have hu : upd β n c' n = c' := by simp [upd]
        rw [hu]
        exact ⟨⟨_, ints_fits hr⟩, fun g hgb => .inr ⟨b, .row (ints l) 1 e, by simp [listH], by simp, hbk g hgb⟩⟩
      · cases hb'
    · intro n m b1 b2 g h1 h2 _ _
      rw [hlk] at h1 h2
      split at h1
      · split at h2
        · simp_all
        · cases h2
      · cases h1
  rcases hf.row with ⟨a, hc, h0, hx⟩ | ⟨g, cap, hc, h0, hrow⟩
  · have hnil : l = [] := by rw [ints_len] at h0; exact List.eq_nil_of_length_eq_zero h0
    subst hnil
    rw [hc]
    refine (Tryd.slices_Compact_int_empty a 0 w).mono fun e' w' ⟨he, hw⟩ => ?_
    subst he; subst hw
    exact tail w' _ ⟨_, _, _, rfl⟩ ⟨rfl, rfl, rfl, Nat.le_refl _, fun _ _ _ => rfl⟩ (.inl ⟨a, rfl, rfl, rfl⟩) (fun g hg => by rw [hc]; exact hg)
  · rcases hrow.2 with ⟨h', _⟩ | ⟨g', cap', cur, h', _, hg, hn1, hn2, hn3, hn4⟩
    · rw [hc] at h'; cases h'
    · rw [hc] at h'
      simp only [Value.slice.injEq, Option.some.injEq, Addr.mk.injEq, and_true, true_and] at h'
      obtain ⟨rfl, rfl⟩ := h'
      rw [ints_len] at hn1 hn4 hc
      rw [Nat.mul_one] at hn4
      rw [hc]
      have hcl : (Lib.compact l).length ≤ l.length := compact_len l
      refine (Tryd.slices_Compact_int g 0 cap l w (holds_of_blockI hg hn4) (by omega) hn1).mono fun e' w' ⟨he, q, hw⟩ => ?_
      subst he
      have hw2 : w' = Sort.grow (Sort.putRow (Value.int .i64) (Sort.ahead w q) g 0 (Lib.compact l ++ List.replicate (l.length - (Lib.compact l).length) 0).toArray) #[] := by rw [hw, Sort.grow_empty]
      subst hw2
      have hbk : blkOf (β b) = some g := by rw [hc]; simp [blkOf]; omega
      refine tail _ _ ⟨_, _, _, rfl⟩ (by rw [hbk]; exact grownBy_sortedI _) (.inr ⟨g, cap, rfl, h0, by simp, .inr ⟨g, cap, _, rfl, Nat.zero_le _, heap_sortedI _ hg, by omega, hn2, by simp [Sort.putCells, hn3], ?_⟩⟩) (fun g' hg' => ?_)
      · rw [Nat.mul_one]
        have ht := take_putCellsI cur (Lib.compact l ++ List.replicate (l.length - (Lib.compact l).length) 0) (by simp; omega)
        have ht2 := congrArg (List.take (Lib.compact l).length) ht
        rw [List.take_take, Nat.min_eq_left (by simp)] at ht2
        rw [ht2, List.map_append]
        exact List.take_left' (by simp)
      · rw [hbk]
        simp only [blkOf] at hg'
        split at hg'
        · cases hg'
        · exact hg'
end Go.Proofs
end
section
set_option linter.unusedVariables false
set_option linter.unusedSimpArgs false
namespace Go.Proofs
open Go Go.Ab Go.RowKit
set_option maxHeartbeats 1000000
/-- What Compact leaves in the row. -/
def comp0 (l : List Int) : List Int := Lib.compact l ++ List.replicate (l.length - (Lib.compact l).length) 0
theorem comp0_len (l : List Int) : (comp0 l).length = l.length := by have := compact_len l; simp [comp0]; omega
theorem compact_pre (l : List Int) (b nm : Nat) (e : TypeId) (hl : l.length < 1000000) : CallC Tryd.prog 49 [.own b] [(b, .row (ints l) 1 e)] nm (.pre b (Lib.compact l).length) [(b, some (.row (ints (comp0 l)) 1 e))] := by
  refine ⟨⟨_, Tryd.func49, by kernel_rfl, by kernel_rfl⟩, fun prov β w cs hn hb hi hv => ?_⟩
  have hlk : ∀ n, updL (listH [(b, Blk.row (ints l) 1 e)]) [(b, some (Blk.row (ints (comp0 l)) 1 e))] n = if n = b then some (.row (ints (comp0 l)) 1 e) else none := by
    intro n; simp only [updL, upd, listH]; split <;> simp
  have hB := hb b (.row (ints l) 1 e) (by simp [listH])
  obtain ⟨xs, hf⟩ := hB
  obtain rfl := fits_ints hf
  obtain ⟨hlen, hv⟩ := hv
  match cs, hlen with
  | [c], _ =>
  have h1 := hv 0 (by simp)
  simp only [av_zero, cv, List.getD_cons_zero] at h1
  obtain ⟨rfl, _⟩ := h1.own_inv
  have hcl : (Lib.compact l).length ≤ l.length := compact_len l
  have tail : ∀ w' a n0 cap cap', β b = .slice a n0 cap → (Lib.compact l).length ≤ cap' → cap' ≤ maxLen → w.grownBy w' (blkOf (β b)) → RowRep w' e 1 (β b) (comp0 l).length ((comp0 l).map (Value.int .i64)) →
      ∃ c β', Ending.returned (Value.slice a (Lib.compact l).length cap') = .returned c ∧ w'.os = w.os ∧ w'.tape = w.tape ∧ w'.output = w.output ∧ w.heap.size ≤ w'.heap.size ∧ Grows β β' ∧ (∀ n, n ≠ nm → β' n = β n) ∧
      (∀ g, g < w.heap.size → (∀ n b', listH [(b, Blk.row (ints l) 1 e)] n = some b' → n ∈ [(b, some (Blk.row (ints (comp0 l)) 1 e))].map (·.1) → blkOf (β n) ≠ some g) → w'.heap[g]? = w.heap[g]?) ∧
      SimV (stb (fun g => prov g ∨ w.heap.size ≤ g) w' β' (updL (listH [(b, Blk.row (ints l) 1 e)]) [(b, some (Blk.row (ints (comp0 l)) 1 e))])) β' w' (.pre b (Lib.compact l).length) c ∧
      (∀ n b', updL (listH [(b, Blk.row (ints l) 1 e)]) [(b, some (Blk.row (ints (comp0 l)) 1 e))] n = some b' → n ∈ [(b, some (Blk.row (ints (comp0 l)) 1 e))].map (·.1) → BlkRep (stb (fun g => prov g ∨ w.heap.size ≤ g) w' β' (updL (listH [(b, Blk.row (ints l) 1 e)]) [(b, some (Blk.row (ints (comp0 l)) 1 e))])) β' w' b' (β' n) ∧
        ∀ g, blkOf (β' n) = some g → w.heap.size ≤ g ∨ ∃ m b', listH [(b, Blk.row (ints l) 1 e)] m = some b' ∧ m ∈ [(b, some (Blk.row (ints (comp0 l)) 1 e))].map (·.1) ∧ blkOf (β m) = some g) ∧
      Inj β' (updL (listH [(b, Blk.row (ints l) 1 e)]) [(b, some (Blk.row (ints (comp0 l)) 1 e))]) := by
    intro w' a n0 cap cap' hβb hk1 hk2 hg hr
    refine ⟨_, β, rfl, hg.os, hg.tape, hg.output, hg.size, Grows.refl _, fun _ _ => rfl, fun g hgl hno => ?_, .pre b _ hβb hk1 hk2, fun n b' hb' _ => ?_, ?_⟩
    · exact hg.block g hgl (fun e' => hno b (.row (ints l) 1 e) (by simp [listH]) (by simp) e'.symm)
    · rw [hlk] at hb'
      split at hb'
      · rename_i hnb; subst hnb
        simp at hb'; subst hb'
        exact ⟨⟨_, ints_fits hr⟩, fun g hgb => .inr ⟨n, .row (ints l) 1 e, by simp [listH], by simp, hgb⟩⟩
      · cases hb'
    · intro n m b1 b2 g h1 h2 _ _
      rw [hlk] at h1 h2
      split at h1
      · split at h2
        · simp_all
        · cases h2
      · cases h1
  rcases hf.row with ⟨a, hc, h0, hx⟩ | ⟨g, cap, hc, h0, hrow⟩
  · have hnil : l = [] := by rw [ints_len] at h0; exact List.eq_nil_of_length_eq_zero h0
    subst hnil
    rw [hc]
    refine (Tryd.slices_Compact_int_empty a 0 w).mono fun e' w' ⟨he, hw⟩ => ?_
    subst he; subst hw
    exact tail w' a 0 0 0 hc (Nat.zero_le _) (Nat.zero_le _) ⟨rfl, rfl, rfl, Nat.le_refl _, fun _ _ _ => rfl⟩ (.inl ⟨a, hc, rfl, rfl⟩)
  · rcases hrow.2 with ⟨h', _⟩ | ⟨g', cap', cur, h', _, hg, hn1, hn2, hn3, hn4⟩
    · rw [hc] at h'; cases h'
    · rw [hc] at h'
      simp only [Value.slice.injEq, Option.some.injEq, Addr.mk.injEq, and_true, true_and] at h'
      obtain ⟨rfl, rfl⟩ := h'
      rw [ints_len] at hn1 hn4 hc
      rw [Nat.mul_one] at hn4
      rw [hc]
      refine (Tryd.slices_Compact_int g 0 cap l w (holds_of_blockI hg hn4) (by omega) hn1).mono fun e' w' ⟨he, q, hw⟩ => ?_
      subst he
      have hw2 : w' = Sort.grow (Sort.putRow (Value.int .i64) (Sort.ahead w q) g 0 (comp0 l).toArray) #[] := by rw [hw, Sort.grow_empty]; rfl
      subst hw2
      have hbk : blkOf (β b) = some g := by rw [hc]; simp [blkOf]; omega
      refine tail _ _ _ _ cap hc (by omega) hn2 (by rw [hbk]; exact grownBy_sortedI _) (.inr ⟨g, cap, by rw [hc, comp0_len], h0, ?_⟩)
      have := ownsRow_sortedI (w := w) (base := 0) (g := g) (cap := cap) (n := q) (e := e) (os := #[]) (cur := cur) (ss := l) (ts := comp0 l) (comp0_len l) (Nat.zero_le _) hg hn1 hn2 hn3
      rw [hc, comp0_len]
      exact this
end Go.Proofs
end
