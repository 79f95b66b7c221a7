import Derived.Test.YtpphgheahpiniaaPXF
section
set_option linter.unusedVariables false
set_option linter.unusedSimpArgs false
namespace Go.Proofs
open Go Go.Ab
set_option maxHeartbeats 8000000
set_option maxRecDepth 100000
set_option linter.unusedSimpArgs false
set_option linter.unusedVariables false
attribute [local irreducible] Awp aops aopsL Go.Ab.Pure PureOwn

theorem last_step {l : List Wl} {nm : ByteArray} {i : Nat} (hu : ∀ i j, i < l.length → j < l.length → sameN nm (l.getD i zeroWl) = true → sameN nm (l.getD j zeroWl) = true → i = j) (hi : i < l.length) :
    (sameN nm (l.getD i zeroWl) = true → idxF (sameN nm) l = i) ∧ (sameN nm (l.getD i zeroWl) = false → idxF (sameN nm) l ≠ i) := by
  rcases idxF_some (p := sameN nm) (l := l) zeroWl with ⟨hI, hn⟩ | ⟨k, hkl, hI, hk, hn⟩
  · rw [hI]
    refine ⟨fun h => ?_, fun _ => by omega⟩
    rw [hn i hi] at h; cases h
  · rw [hI]
    refine ⟨fun h => ?_, fun h e => ?_⟩
    · rw [hu k i hkl hi hk h]
    · have : k = i := by omega
      subst this
      rw [h] at hk; cases hk
def kAt (I : Int) (i : Nat) : Int := if 0 ≤ I ∧ I < i then I else -1
theorem kAt_end {α : Type} {p : α → Bool} {l : List α} (d : α) {i : Nat} (h : l.length ≤ i) : kAt (idxF p l) i = idxF p l := by
  unfold kAt
  rcases idxF_some (p := p) (l := l) d with ⟨hI, _⟩ | ⟨k, hkl, hI, _⟩
  · rw [hI, if_neg (by omega)]
  · rw [hI, if_pos (by omega)]
theorem kAt_hit {I : Int} {i : Nat} (h : I = i) : kAt I (i + 1) = i := by
  unfold kAt
  rw [if_pos (by omega), h]
theorem kAt_miss {I : Int} {i : Nat} (h : I ≠ i) : kAt I (i + 1) = kAt I i := by
  unfold kAt
  by_cases h2 : 0 ≤ I ∧ I < i
  · rw [if_pos h2, if_pos (by omega)]
  · rw [if_neg h2, if_neg (by omega)]
theorem names_one {l : List Wl} (h : chkE l = 0) (nm : ByteArray) : ∀ i j, i < l.length → j < l.length → sameN nm (l.getD i zeroWl) = true → sameN nm (l.getD j zeroWl) = true → i = j := by
  unfold chkE at h
  by_cases h32 : 32 < l.length
  · rw [if_pos h32] at h; cases h
  rw [if_neg h32, firstE_zero] at h
  have hst : ∀ i, i + 1 < l.length → strLess (l.getD i zeroWl).nm (l.getD (i + 1) zeroWl).nm = true := fun i hi => by
    have h1 := h (i + 1) hi
    unfold chkAt at h1
    by_cases hn : (!nameB (l.getD (i + 1) zeroWl).nm) = true
    · rw [if_pos hn] at h1; cases h1
    rw [if_neg hn] at h1
    by_cases h16 : 16 < (l.getD (i + 1) zeroWl).sk.length
    · rw [if_pos h16] at h1; cases h1
    rw [if_neg h16] at h1
    by_cases hs : skE (l.getD (i + 1) zeroWl).sk ≠ 0
    · rw [if_pos hs] at h1; exact absurd h1 hs
    rw [if_neg hs] at h1
    cases hp : prevW l (i + 1)
    · unfold prevW leS at hp
      rw [Nat.add_sub_cancel, decide_eq_true (Nat.succ_pos i), Bool.true_and, Bool.or_eq_false_iff] at hp
      rw [strLess_iff]
      rcases lex_tri (l.getD i zeroWl).nm.toList (l.getD (i + 1) zeroWl).nm.toList with k | k | k
      · exact k
      · have := hp.2
        rw [k] at this
        simp at this
      · rw [← strLess_iff, hp.1] at k; cases k
    · rw [hp] at h1; cases h1
  have hlt : ∀ i d, i + 1 + d < l.length → strLess (l.getD i zeroWl).nm (l.getD (i + 1 + d) zeroWl).nm = true := by
    intro i d
    induction d with
    | zero => exact hst i
    | succ d ih => intro hd; exact strLess_trans (ih (by omega)) (hst (i + 1 + d) hd)
  have key : ∀ i j, i < j → j < l.length → sameN nm (l.getD i zeroWl) = true → sameN nm (l.getD j zeroWl) = true → False := fun i j hij hj h1 h2 => by
    obtain ⟨d, rfl⟩ : ∃ d, j = i + 1 + d := ⟨j - (i + 1), by omega⟩
    have h3 := hlt i d hj
    unfold sameN at h1 h2
    rw [beq_iff_eq] at h1 h2
    rw [strLess_iff, h1, h2] at h3
    exact List.lt_irrefl _ h3
  intro i j hi hj h1 h2
  rcases Nat.lt_trichotomy i j with k | k | k
  · exact (key i j k hj h1 h2).elim
  · exact k
  · exact (key j i k hi h2 h1).elim
def outAt (l : List Wl) (i : Nat) (J : List Sk) (k : Nat) : List Wl := (l.take k).mapIdx fun j q => if j = i then ⟨q.nm, J⟩ else q
theorem outAt_len (l : List Wl) (i : Nat) (J : List Sk) (k : Nat) : (outAt l i J k).length = (l.take k).length := by simp [outAt]
theorem outAt_step (l : List Wl) (i : Nat) (J : List Sk) (k : Nat) (h : k < l.length) : outAt l i J (k + 1) = outAt l i J k ++ [if k = i then ⟨(l.getD k zeroWl).nm, J⟩ else l.getD k zeroWl] := by
  unfold outAt
  rw [take_snoc l zeroWl k h, List.mapIdx_append]
  have e : (l.take k).length = k := List.length_take_of_le (by omega)
  simp [e]
theorem outAt_end (l : List Wl) (i : Nat) (J : List Sk) (hi : i < l.length) : outAt l i J l.length = l.set i ⟨(l.getD i zeroWl).nm, J⟩ := by
  unfold outAt
  rw [List.take_of_length_le (Nat.le_refl _)]
  apply List.ext_getElem (by simp)
  intro j h1 h2
  simp only [List.getElem_mapIdx, List.getElem_set]
  by_cases hj : j = i
  · subst hj
    rw [if_pos rfl, if_pos rfl, getD_get l zeroWl j hi]
  · rw [if_neg hj, if_neg (fun e => hj e.symm)]
end Go.Proofs
end
section
set_option linter.unusedVariables false
set_option linter.unusedSimpArgs false
namespace Go.Proofs
open Go Go.Ab
set_option maxHeartbeats 8000000
set_option maxRecDepth 100000
set_option linter.unusedSimpArgs false
set_option linter.unusedVariables false
attribute [local irreducible] Awp aops aopsL Go.Ab.Pure PureOwn

theorem box_low {hd : Nat → Option Blk} {ρ : Nat → Nat} {nx b : Nat} {nm : ByteArray} {S : List Sk} (hb : hd b = some (.row (sks S) 3 50)) : BView hd ρ nx (.box [.v (.string nm), .own b]) (.box [.v (.string nm), .sl (sks S)]) :=
  .box rfl fun j hj => by
    match j, hj with
    | 0, _ => exact .low (.same _ rfl)
    | 1, _ => exact .low (.own hb)
theorem rrenew_ok (l : List Wl) (nm p : ByteArray) (a h : Int) (hl : l.length ≤ 40) (hsk : ∀ i, i < l.length → (l.getD i zeroWl).sk.length ≤ 40) (hu : ∀ i j, i < l.length → j < l.length → sameN nm (l.getD i zeroWl) = true → sameN nm (l.getD j zeroWl) = true → i = j) :
    Pure Try.prog 21 [.sl (wls l), .v (.string nm), .v (.string p), .v (.int .i64 a), .v (.int .i64 h)] (.tup [.sl (wls (renE l nm p a h).1), .v (.int .i64 (renE l nm p a h).2)]) := by
  have c1 := rname_ok p
  refine fn_pure Try.F21 (Nat.le_of_ble_eq_true rfl) ?_; unfold Try.ac21
  repeat' (first
    | (apply Awp.sreg; (case hn => (simp only [List.length_cons, List.length_nil, Nat.reduceAdd] <;> rfl)))
    | (refine st_nil ?_)
    | (apply st_a; (case hc => rfl); (case he => (simp only [go_sem, *] <;> rfl)); (case hu => (simp only [updL_nil, updL_cons] <;> rfl)); (case hp => first | trivial))
    | refine Awp.block ?_
    | refine Awp.seq ?_)
  refine Awp.loop (fun i : Nat => i ≤ l.length) 60 (fun i => mkS [(0, .sl (wls l)), (1, .v (.string nm)), (2, .v (.string p)), (3, .v (.int .i64 a)), (4, .v (.int .i64 h)), (12, .v (.int .i64 (kAt (idxF (sameN nm) l) i))), (13, .v (.int .i64 i))] []) (fun i => l.length - i) 0 (by omega) ?_ ?_
  · have e1 : kAt (idxF (sameN nm) l) 0 = -1 := by unfold kAt; rw [if_neg (by omega)]
    rw [e1]
    clear c1 hsk hu
    (apply Ghost.mk [] []; (case hdead => rfl); (case hinj => rfl); (case hV => (simp only [go_sem, *]) <;> (repeat' (first | exact View.int (by first | rfl | omega | (simp; done) | (rw [wrap_i64] <;> (try simp only [Int.natCast_add]) <;> omega) | (simp [*]; done))))); (case hB => (simp only [go_sem, *]) <;> (repeat' (first | skip; done))))
  · intro i hi
    by_cases hlt : i < l.length
    · have hlt' : (i : Int) < l.length := by omega
      have hat := wls_at l i hlt
      have hz : ((l.getD i zeroWl).cells).length = 2 := rfl
      obtain ⟨g1, g2⟩ := last_step hu hlt
      clear hu hsk c1
      cases hB : sameN nm (l.getD i zeroWl)
      · have hk := kAt_miss (g2 hB)
        clear g1 g2
        generalize idxF (sameN nm) l = I at *
        unfold sameN at hB
        repeat' (first
    | (apply Awp.sreg; (case hn => (simp only [List.length_cons, List.length_nil, Nat.reduceAdd] <;> rfl)))
    | (refine st_nil ?_)
    | (apply st_a; (case hc => rfl); (case he => (simp only [go_sem, *] <;> rfl)); (case hu => (simp only [updL_nil, updL_cons] <;> rfl)); (case hp => first | trivial | omega))
    | (apply Awp.reg; (case hn => (simp only [List.length_cons, List.length_nil, Nat.reduceAdd] <;> rfl)))
    | (refine Awp.skip ?_; try simp only [go_sem, *])
    | refine Awp.block ?_
    | (apply Awp.cond; (case hc => (simp only [go_sem, *] <;> rfl)); all_goals (intro hg; (try simp only [Bool.not_true, Bool.not_false, reduceCtorEq] at hg)))
    | refine Awp.seq ?_)
        refine ⟨i + 1, by omega, by omega, ?_⟩
        (apply Ghost.mk [] []; (case hdead => rfl); (case hinj => rfl); (case hV => (simp only [go_sem, *]) <;> (repeat' (first | exact View.int (by first | rfl | omega | (simp; done) | (rw [wrap_i64] <;> (try simp only [Int.natCast_add]) <;> omega) | (simp [*]; done))))); (case hB => (simp only [go_sem, *]) <;> (repeat' (first | skip; done))))
      · have hk := kAt_hit (g1 hB)
        clear g1 g2
        generalize idxF (sameN nm) l = I at *
        unfold sameN at hB
        repeat' (first
    | (apply Awp.sreg; (case hn => (simp only [List.length_cons, List.length_nil, Nat.reduceAdd] <;> rfl)))
    | (refine st_nil ?_)
    | (apply st_a; (case hc => rfl); (case he => (simp only [go_sem, *] <;> rfl)); (case hu => (simp only [updL_nil, updL_cons] <;> rfl)); (case hp => first | trivial | omega))
    | (apply Awp.reg; (case hn => (simp only [List.length_cons, List.length_nil, Nat.reduceAdd] <;> rfl)))
    | (refine Awp.skip ?_; try simp only [go_sem, *])
    | refine Awp.block ?_
    | (apply Awp.cond; (case hc => (simp only [go_sem, *] <;> rfl)); all_goals (intro hg; (try simp only [Bool.not_true, Bool.not_false, reduceCtorEq] at hg)))
    | refine Awp.seq ?_)
        refine ⟨i + 1, by omega, by omega, ?_⟩
        (apply Ghost.mk [] []; (case hdead => rfl); (case hinj => rfl); (case hV => (simp only [go_sem, *]) <;> (repeat' (first | exact View.int (by first | rfl | omega | (simp; done) | (rw [wrap_i64] <;> (try simp only [Int.natCast_add]) <;> omega) | (simp [*]; done))))); (case hB => (simp only [go_sem, *]) <;> (repeat' (first | skip; done))))
    · have hlt' : ¬ (i : Int) < l.length := by omega
      rw [kAt_end zeroWl (Nat.le_of_not_lt hlt)]
      clear hu hlt
      unfold renE
      rcases idxF_some (p := sameN nm) (l := l) zeroWl with ⟨hI, _⟩ | ⟨j, hjl, hI, _, _⟩
      · rw [hI, if_pos (by decide)]
        clear hsk
        repeat' (first
    | (apply Awp.sreg; (case hn => (simp only [List.length_cons, List.length_nil, Nat.reduceAdd] <;> rfl)))
    | (refine st_nil ?_)
    | (apply st_a; (case hc => rfl); (case he => (simp only [go_sem, *] <;> rfl)); (case hu => (simp only [updL_nil, updL_cons] <;> rfl)); (case hp => first | trivial))
    | (refine Awp.ret ?_; try simp only [go_sem, *])
    | (refine Awp.exit ?_; try simp only [go_sem, *])
    | (apply Awp.cond; (case hc => (simp only [go_sem, *] <;> rfl)); all_goals (intro hg; (try simp only [Bool.not_true, Bool.not_false, reduceCtorEq] at hg)))
    | refine Awp.seq ?_)
        all_goals repeat' (first | exact Lower.int (by first | rfl | (simp only [true_and, Bool.true_and, Bool.false_and, Bool.and_true, Bool.and_false, Bool.true_or, Bool.false_or, reduceIte, Bool.false_eq_true, *]; done) | (simp only [true_and, reduceIte, Bool.false_eq_true, *] <;> rfl) | (simp [true_and]; done) | (simp_all [true_and]; done) | omega) | exact Lower.nilE (by first | rfl | (simp only [true_and, Bool.true_and, Bool.false_and, Bool.and_true, Bool.and_false, Bool.true_or, Bool.false_or, reduceIte, Bool.false_eq_true, *]; done) | (simp only [true_and, reduceIte, Bool.false_eq_true, *] <;> rfl) | (simp [true_and]; done) | (simp_all [true_and]; done) | omega) | refine Lower.tupF ?_ | refine All2.cons ?_ ?_ | exact All2.nil)
      rw [hI, if_neg (by omega)]
      have hj0 : decide ((j : Int) < 0) = false := decide_eq_false (by omega)
      cases hN : nameB p
      · rw [hN] at c1
        rw [if_pos (by decide)]
        clear hsk
        repeat' (first
    | (apply Awp.sreg; (case hn => (simp only [List.length_cons, List.length_nil, Nat.reduceAdd] <;> rfl)))
    | (refine st_nil ?_)
    | (apply st_a; (case hc => rfl); (case he => (simp only [go_sem, *] <;> rfl)); (case hu => (simp only [updL_nil, updL_cons] <;> rfl)); (case hp => first | trivial))
    | (apply st_c; (case hc => (simp only [go_sem, *] <;> rfl)); (case hl => (simp only [go_sem, *] <;> rfl)); (case hn => (simp only [go_sem, *] <;> rfl)); (case hp => first | exact c1 | (have hXz := c1; simp only [go_sem, *] at hXz; exact hXz)))
    | (refine Awp.ret ?_; try simp only [go_sem, *])
    | (refine Awp.skip ?_; try simp only [go_sem, *])
    | (refine Awp.exit ?_; try simp only [go_sem, *])
    | (apply Awp.cond; (case hc => (simp only [go_sem, *] <;> rfl)); all_goals (intro hg; (try simp only [Bool.not_true, Bool.not_false, reduceCtorEq] at hg)))
    | refine Awp.seq ?_)
        all_goals repeat' (first | exact Lower.int (by first | rfl | (simp only [true_and, Bool.true_and, Bool.false_and, Bool.and_true, Bool.and_false, Bool.true_or, Bool.false_or, reduceIte, Bool.false_eq_true, *]; done) | (simp only [true_and, reduceIte, Bool.false_eq_true, *] <;> rfl) | (simp [true_and]; done) | (simp_all [true_and]; done) | omega) | exact Lower.nilE (by first | rfl | (simp only [true_and, Bool.true_and, Bool.false_and, Bool.and_true, Bool.and_false, Bool.true_or, Bool.false_or, reduceIte, Bool.false_eq_true, *]; done) | (simp only [true_and, reduceIte, Bool.false_eq_true, *] <;> rfl) | (simp [true_and]; done) | (simp_all [true_and]; done) | omega) | refine Lower.tupF ?_ | refine All2.cons ?_ ?_ | exact All2.nil)
      rw [hN] at c1
      rw [if_neg (by simp)]
      cases hB : badR a h
      case true =>
        rw [if_pos rfl]
        unfold badR at hB
        clear hsk
        repeat' (first
    | (apply Awp.sreg; (case hn => (simp only [List.length_cons, List.length_nil, Nat.reduceAdd] <;> rfl)))
    | (refine st_nil ?_)
    | (apply st_a; (case hc => rfl); (case he => (simp only [go_sem, *] <;> rfl)); (case hu => (simp only [updL_nil, updL_cons] <;> rfl)); (case hp => first | trivial))
    | (apply st_m; (case hc => rfl); (case hg => (simp only [go_sem, *] <;> rfl)); (case he => (intro hQz; (try simp only [wantB_t, wantB_f, Bool.and_eq_true, Bool.not_eq_true', Bool.not_true, Bool.not_false, and_true, true_and] at hQz); simp only [go_sem, *] <;> rfl)); (case hp => (intro hQz; (try simp only [wantB_t, wantB_f, Bool.and_eq_true, Bool.not_eq_true', Bool.or_eq_false_iff, decide_eq_true_eq, decide_eq_false_iff_not, beq_iff_eq, beq_eq_false_iff_ne, bne_iff_ne, bne_eq_false_iff_eq, Int.not_lt, Int.not_le, Int.ofNat_lt, Int.ofNat_le] at hQz); first | trivial)))
    | (apply st_c; (case hc => (simp only [go_sem, *] <;> rfl)); (case hl => (simp only [go_sem, *] <;> rfl)); (case hn => (simp only [go_sem, *] <;> rfl)); (case hp => first | exact c1 | (have hXz := c1; simp only [go_sem, *] at hXz; exact hXz)))
    | (refine Awp.ret ?_; try simp only [go_sem, *])
    | (refine Awp.skip ?_; try simp only [go_sem, *])
    | (refine Awp.exit ?_; try simp only [go_sem, *])
    | (apply Awp.cond; (case hc => (simp only [go_sem, *] <;> rfl)); all_goals (intro hg; (try simp only [Bool.not_true, Bool.not_false, reduceCtorEq] at hg)))
    | refine Awp.seq ?_)
        all_goals (try (exfalso; simp only [Bool.or_true, Bool.true_or, Bool.or_false, Bool.false_or, Bool.and_true, Bool.true_and, Bool.and_false, Bool.false_and, Bool.not_true, Bool.not_false, reduceCtorEq, *] at hB; done))
        all_goals repeat' (first | exact Lower.int (by first | rfl | (simp only [true_and, Bool.true_and, Bool.false_and, Bool.and_true, Bool.and_false, Bool.true_or, Bool.false_or, reduceIte, Bool.false_eq_true, *]; done) | (simp only [true_and, reduceIte, Bool.false_eq_true, *] <;> rfl) | (simp [true_and]; done) | (simp_all [true_and]; done) | omega) | exact Lower.nilE (by first | rfl | (simp only [true_and, Bool.true_and, Bool.false_and, Bool.and_true, Bool.and_false, Bool.true_or, Bool.false_or, reduceIte, Bool.false_eq_true, *]; done) | (simp only [true_and, reduceIte, Bool.false_eq_true, *] <;> rfl) | (simp [true_and]; done) | (simp_all [true_and]; done) | omega) | refine Lower.tupF ?_ | refine All2.cons ?_ ?_ | exact All2.nil)
      rw [if_neg (by simp)]
      obtain ⟨ha0, ha1, hh0, hh1, hah, hwr⟩ := badR_no hB
      unfold badR at hB
      have c2 := joined_ok (l.getD j zeroWl).sk ⟨p, a, a + h⟩ (hsk j hjl)
      have hJl := oth_mer_len (l.getD j zeroWl).sk ⟨p, a, a + h⟩
      have hsj := hsk j hjl
      rw [Int.toNat_natCast]
      unfold renAt renJ
      generalize joinE (l.getD j zeroWl).sk ⟨p, a, a + h⟩ = J at *
      repeat' (first
    | (apply Awp.sreg; (case hn => (simp only [List.length_cons, List.length_nil, Nat.reduceAdd] <;> rfl)))
    | (refine st_nil ?_)
    | (apply st_a; (case hc => rfl); (case he => (simp only [go_sem, *] <;> rfl)); (case hu => (simp only [updL_nil, updL_cons] <;> rfl)); (case hp => first | trivial))
    | (apply st_m; (case hc => rfl); (case hg => (simp only [go_sem, *] <;> rfl)); (case he => (intro hQz; (try simp only [wantB_t, wantB_f, Bool.and_eq_true, Bool.not_eq_true', Bool.not_true, Bool.not_false, and_true, true_and] at hQz); simp only [go_sem, *] <;> rfl)); (case hp => (intro hQz; (try simp only [wantB_t, wantB_f, Bool.and_eq_true, Bool.not_eq_true', Bool.or_eq_false_iff, decide_eq_true_eq, decide_eq_false_iff_not, beq_iff_eq, beq_eq_false_iff_ne, bne_iff_ne, bne_eq_false_iff_eq, Int.not_lt, Int.not_le, Int.ofNat_lt, Int.ofNat_le] at hQz); first | trivial)))
    | (apply st_c; (case hc => (simp only [go_sem, *] <;> rfl)); (case hl => (simp only [go_sem, *] <;> rfl)); (case hn => (simp only [go_sem, *] <;> rfl)); (case hp => first | exact c1 | (have hXz := c1; simp only [go_sem, *] at hXz; exact hXz)))
    | (refine Awp.ret ?_; try simp only [go_sem, *])
    | (refine Awp.skip ?_; try simp only [go_sem, *])
    | (refine Awp.exit ?_; try simp only [go_sem, *])
    | refine Awp.block ?_
    | (apply Awp.cond; (case hc => (simp only [go_sem, *] <;> rfl)); all_goals (intro hg; (try simp only [Bool.not_true, Bool.not_false, reduceCtorEq] at hg)))
    | refine Awp.seq ?_)
      all_goals (try (exfalso; simp only [Bool.or_true, Bool.true_or, Bool.or_false, Bool.false_or, Bool.and_true, Bool.true_and, Bool.and_false, Bool.false_and, Bool.not_true, Bool.not_false, reduceCtorEq, *] at hB; done))
      clear c1 hB hlt' hi
      refine Awp.loop (fun k : Nat => k ≤ l.length ∧ (J.length ≤ 16 ∨ k ≤ j)) 160 (fun k => mkS [(0, .sl (wls l)), (2, .v (.string p)), (3, .v (.int .i64 a)), (4, .v (.int .i64 h)), (12, .v (.int .i64 j)), (14, .own 1), (15, .v (.int .i64 k))] [(1, .row (wls (outAt l j J k)) 2 47)]) (fun k => l.length - k) 0 (by simp) ?_ ?_
      · refine Ghost.trans (Ghost.name 14 2 47 rfl (by decide)) ?_
        have e1 : outAt l j J 0 = [] := rfl
        rw [e1]
        clear c2 hsk
        (apply Ghost.mk [(1, 91)] []; (case hdead => rfl); (case hinj => rfl); (case hV => (simp only [go_sem, *]) <;> (repeat' (first | refine And.intro ?_ ?_ | exact View.int (by first | rfl | omega | (simp; done) | (rw [wrap_i64] <;> (try simp only [Int.natCast_add]) <;> omega) | (simp [*]; done)) | exact .own rfl (by decide)))); (case hB => (simp only [go_sem, *]) <;> (repeat' (first | exact ⟨_, rfl, .rowE (by first | rfl | omega | (simp; done) | (rw [wrap_i64] <;> (try simp only [Int.natCast_add]) <;> omega) | (simp [*]; done))⟩))))
      · intro k ⟨hk, hkJ⟩
        by_cases hlt : k < l.length
        · have hlt' : (k : Int) < l.length := by omega
          have hat := wls_at l k hlt
          have hz : ((l.getD k zeroWl).cells).length = 2 := rfl
          have hst := outAt_step l j J k hlt
          have hol := outAt_len l j J k
          have htl : (l.take k).length = k := List.length_take_of_le hk
          rw [htl] at hol
          have hs := hsk k hlt
          have hsone := sks_one (l.getD k zeroWl).sk
          clear hsk
          by_cases hkj : k = j
          · have hkj' : ((k : Int) == j) = true := by simp; omega
            rw [if_pos hkj] at hst
            subst hkj
            obtain ⟨q, hq⟩ : ∃ q, l.getD k zeroWl = q := ⟨_, rfl⟩
            rw [hq] at hat hz hst hs hsone c2 hJl hsj ⊢
            generalize hOO : outAt l k J k = O at *
            have hlast : ∀ (x : List Wl × Int), x = (if 16 < J.length then ([], 12) else (l.set k ⟨q.nm, J⟩, 0)) → True := fun _ _ => trivial
            clear hlast
            repeat' (first
    | (apply Awp.sreg; (case hn => (simp only [List.length_cons, List.length_nil, Nat.reduceAdd] <;> rfl)))
    | (apply Awp.sdraw; (case hn => (simp only [List.length_cons, List.length_nil, Nat.reduceAdd] <;> rfl)))
    | (refine st_nil ?_)
    | (apply st_a; (case hc => rfl); (case he => (simp only [go_sem, *] <;> rfl)); (case hu => (simp only [updL_nil, updL_cons] <;> rfl)); (case hp => first | trivial))
    | (refine Awp.skip ?_; try simp only [go_sem, *])
    | refine Awp.block ?_
    | (apply Awp.cond; (case hc => (simp only [go_sem, *] <;> rfl)); all_goals (intro hg; (try simp only [Bool.not_true, Bool.not_false, reduceCtorEq] at hg)))
    | refine Awp.seq ?_)
            repeat' (first
    | (refine Awp.draw ?_)
    | (apply sl_a; (case hc => rfl); (case he => (simp only [go_sem, *] <;> rfl)); (case hu => (simp only [updL_nil, updL_cons] <;> rfl)); (case hl => (simp only [List.map_cons, List.map_nil] <;> rfl)); (case hp => first | trivial | omega | ((repeat' (refine And.intro ?_ ?_)) <;> first | trivial | assumption | omega | (simp; done) | (simp; omega) | (simp [*]; done))))
    | (apply sl_gu; (case hv => (simp only [go_sem, *] <;> rfl)))
    | (apply sl_gn; (case hv => (simp only [go_sem, *] <;> rfl)); (case hbw => rfl))
    | (apply sl_ga; (case hb => rfl); (case hv => (simp only [go_sem, *] <;> rfl)); (case he => (simp only [go_sem, *] <;> rfl)); (case hu => (simp only [updL_nil, updL_cons] <;> rfl)); (case hl => (simp only [List.map_cons, List.map_nil] <;> rfl)); (case hp => first | skip; done))
    | (apply sl_case; (case hv => (simp only [go_sem, *] <;> rfl)); all_goals (intro hg; (try simp only [Bool.not_true, Bool.not_false, reduceCtorEq] at hg); (try have hg' := hg); (try simp only [decide_eq_true_eq, decide_eq_false_iff_not, Bool.and_eq_true, Bool.or_eq_false_iff, bne_iff_ne, bne_eq_false_iff_eq, beq_iff_eq, beq_eq_false_iff_ne, Int.not_lt, Int.not_le, Int.ofNat_lt, Int.ofNat_le, Int.natCast_inj] at hg')))
    | (refine sl_nil (And.intro (by first | exact drawOk_of (by decide +kernel) | (simp only [List.map_cons, List.map_nil]; exact drawOk_of (by decide +kernel)) | decide) ?_)))
            refine Awp.ghost (nx' := 400) (S' := mkS [(0, .sl (wls l)), (2, .v (.string p)), (3, .v (.int .i64 a)), (4, .v (.int .i64 h)), (12, .v (.int .i64 k)), (14, .own 1), (15, .v (.int .i64 k)), (16, .bp 2 0)] [(1, .row (wls O) 2 47), (2, .box [.v (.string q.nm), .sl (sks q.sk)])]) ?_ ?_
            · clear hsone hat hz c2
              (apply Ghost.mk [(2, 177)] [175]; (case hdead => rfl); (case hinj => rfl); (case hV => (simp only [go_sem, *]) <;> (repeat' (first | refine And.intro ?_ ?_ | exact .bp rfl (by decide) | exact .own rfl (by decide)))); (case hB => (simp only [go_sem, *]) <;> (repeat' (first | refine And.intro ?_ ?_ | exact ⟨_, rfl, box_low rfl⟩ | exact ⟨_, rfl, .rowE (by first | rfl | omega | (simp; done) | (rw [wrap_i64] <;> (try simp only [Int.natCast_add]) <;> omega) | (simp [*]; done))⟩))))
            clear hsone hat hz
            repeat' (first
    | (apply Awp.sreg; (case hn => (simp only [List.length_cons, List.length_nil, Nat.reduceAdd] <;> rfl)))
    | (refine st_nil ?_)
    | (apply st_a; (case hc => rfl); (case he => (simp only [go_sem, *] <;> rfl)); (case hu => (simp only [updL_nil, updL_cons] <;> rfl)); (case hp => first | trivial))
    | (apply Awp.cond; (case hc => (simp only [go_sem, *] <;> rfl)); all_goals (intro hg; (try simp only [Bool.not_true, Bool.not_false, reduceCtorEq] at hg)))
    | refine Awp.seq ?_)
            (first
    | (apply st_co; (case hc => (simp only [go_sem, *] <;> rfl)); (case hl => (simp only [go_sem, *] <;> rfl)); (case hn => (simp only [go_sem, *] <;> rfl)); (case hp => first | exact c2 | (have hXz := c2; simp only [go_sem, *] at hXz; exact hXz))))
            clear c2
            (first
    | (apply st_a; (case hc => rfl); (case he => (simp only [go_sem, *] <;> rfl)); (case hu => (simp only [updL_nil, updL_cons] <;> rfl)); (case hp => first | trivial)))
            (first
    | (apply st_a; (case hc => rfl); (case he => (simp only [go_sem, *] <;> rfl)); (case hu => (simp only [updL_nil, updL_cons] <;> rfl)); (case hp => first | trivial)))
            refine st_nil ?_
            refine Awp.ghost (nx' := 600) (S' := mkS [(0, .sl (wls l)), (2, .v (.string p)), (3, .v (.int .i64 a)), (4, .v (.int .i64 h)), (12, .v (.int .i64 k)), (14, .own 1), (15, .v (.int .i64 k)), (16, .bp 2 0)] [(1, .row (wls O) 2 47), (2, .box [.v (.string q.nm), .sl (sks J)])]) ?_ ?_
            · (apply Ghost.mk [] [411]; (case hdead => rfl); (case hinj => rfl); (case hV => (simp only [go_sem, *]) <;> (repeat' (first | refine And.intro ?_ ?_ | exact .bp rfl (by decide) | exact .own rfl (by decide)))); (case hB => (simp only [go_sem, *]) <;> (repeat' (first | refine And.intro ?_ ?_ | exact ⟨_, rfl, box_low rfl⟩ | exact ⟨_, rfl, .rowE (by first | rfl | omega | (simp; done) | (rw [wrap_i64] <;> (try simp only [Int.natCast_add]) <;> omega) | (simp [*]; done))⟩))))
            by_cases hJ : 16 < J.length
            · have hJ' : (16 : Int) < J.length := by omega
              rw [if_pos hJ]
              repeat' (first
    | (apply Awp.sreg; (case hn => (simp only [List.length_cons, List.length_nil, Nat.reduceAdd] <;> rfl)))
    | (refine st_nil ?_)
    | (apply st_a; (case hc => rfl); (case he => (simp only [go_sem, *] <;> rfl)); (case hu => (simp only [updL_nil, updL_cons] <;> rfl)); (case hp => first | trivial))
    | (refine Awp.ret ?_; try simp only [go_sem, *])
    | (apply Awp.cond; (case hc => (simp only [go_sem, *] <;> rfl)); all_goals (intro hg; (try simp only [Bool.not_true, Bool.not_false, reduceCtorEq] at hg))))
              all_goals repeat' (first | exact Lower.int (by first | rfl | (simp only [true_and, Bool.true_and, Bool.false_and, Bool.and_true, Bool.and_false, Bool.true_or, Bool.false_or, reduceIte, Bool.false_eq_true, *]; done) | (simp only [true_and, reduceIte, Bool.false_eq_true, *] <;> rfl) | (simp [true_and]; done) | (simp_all [true_and]; done) | omega) | exact Lower.nilE (by first | rfl | (simp only [true_and, Bool.true_and, Bool.false_and, Bool.and_true, Bool.and_false, Bool.true_or, Bool.false_or, reduceIte, Bool.false_eq_true, *]; done) | (simp only [true_and, reduceIte, Bool.false_eq_true, *] <;> rfl) | (simp [true_and]; done) | (simp_all [true_and]; done) | omega) | refine Lower.tupF ?_ | refine All2.cons ?_ ?_ | exact All2.nil)
            · have hJ' : ¬ (16 : Int) < J.length := by omega
              repeat' (first
    | (apply Awp.sreg; (case hn => (simp only [List.length_cons, List.length_nil, Nat.reduceAdd] <;> rfl)))
    | (refine st_nil ?_)
    | (apply st_a; (case hc => rfl); (case he => (simp only [go_sem, *] <;> rfl)); (case hu => (simp only [updL_nil, updL_cons] <;> rfl)); (case hp => first | trivial | (simp; done) | (simp; omega)))
    | (apply Awp.reg; (case hn => (simp only [List.length_cons, List.length_nil, Nat.reduceAdd] <;> rfl)))
    | (refine Awp.skip ?_; try simp only [go_sem, *])
    | (apply Awp.cond; (case hc => (simp only [go_sem, *] <;> rfl)); all_goals (intro hg; (try simp only [Bool.not_true, Bool.not_false, reduceCtorEq] at hg))))
              refine ⟨k + 1, ⟨by omega, by omega⟩, by omega, ?_⟩
              rw [hst, ← wls_snoc]
              (apply Ghost.mk [(1, 607)] []; (case hdead => rfl); (case hinj => rfl); (case hV => (simp only [go_sem, *]) <;> (repeat' (first | refine And.intro ?_ ?_ | exact View.int (by first | rfl | omega | (simp; done) | (rw [wrap_i64] <;> (try simp only [Int.natCast_add]) <;> omega) | (simp [*]; done)) | exact .own rfl (by decide)))); (case hB => (simp only [go_sem, *]) <;> (repeat' (first | exact ⟨_, rfl, .rowE (by first | rfl | omega | (simp; done) | (rw [wrap_i64] <;> (try simp only [Int.natCast_add]) <;> omega) | (simp [*]; done))⟩))))
          · have hkj' : ((k : Int) == j) = false := by simp; omega
            rw [if_neg hkj] at hst
            clear c2 hjl hJl hsj
            obtain ⟨q, hq⟩ : ∃ q, l.getD k zeroWl = q := ⟨_, rfl⟩
            rw [hq] at hat hz hst hs hsone
            generalize outAt l j J k = O at *
            repeat' (first
    | (apply Awp.sreg; (case hn => (simp only [List.length_cons, List.length_nil, Nat.reduceAdd] <;> rfl)))
    | (apply Awp.sdraw; (case hn => (simp only [List.length_cons, List.length_nil, Nat.reduceAdd] <;> rfl)))
    | (refine st_nil ?_)
    | (apply st_a; (case hc => rfl); (case he => (simp only [go_sem, *] <;> rfl)); (case hu => (simp only [updL_nil, updL_cons] <;> rfl)); (case hp => first | trivial))
    | (refine Awp.skip ?_; try simp only [go_sem, *])
    | refine Awp.block ?_
    | (apply Awp.cond; (case hc => (simp only [go_sem, *] <;> rfl)); all_goals (intro hg; (try simp only [Bool.not_true, Bool.not_false, reduceCtorEq] at hg)))
    | refine Awp.seq ?_)
            repeat' (first
    | (refine Awp.draw ?_)
    | (apply sl_a; (case hc => rfl); (case he => (simp only [go_sem, *] <;> rfl)); (case hu => (simp only [updL_nil, updL_cons] <;> rfl)); (case hl => (simp only [List.map_cons, List.map_nil] <;> rfl)); (case hp => first | trivial | omega | ((repeat' (refine And.intro ?_ ?_)) <;> first | trivial | assumption | omega | (simp; done) | (simp; omega) | (simp [*]; done))))
    | (apply sl_gu; (case hv => (simp only [go_sem, *] <;> rfl)))
    | (apply sl_gn; (case hv => (simp only [go_sem, *] <;> rfl)); (case hbw => rfl))
    | (apply sl_ga; (case hb => rfl); (case hv => (simp only [go_sem, *] <;> rfl)); (case he => (simp only [go_sem, *] <;> rfl)); (case hu => (simp only [updL_nil, updL_cons] <;> rfl)); (case hl => (simp only [List.map_cons, List.map_nil] <;> rfl)); (case hp => first | skip; done))
    | (apply sl_case; (case hv => (simp only [go_sem, *] <;> rfl)); all_goals (intro hg; (try simp only [Bool.not_true, Bool.not_false, reduceCtorEq] at hg); (try have hg' := hg); (try simp only [decide_eq_true_eq, decide_eq_false_iff_not, Bool.and_eq_true, Bool.or_eq_false_iff, bne_iff_ne, bne_eq_false_iff_eq, beq_iff_eq, beq_eq_false_iff_ne, Int.not_lt, Int.not_le, Int.ofNat_lt, Int.ofNat_le, Int.natCast_inj] at hg')))
    | (refine sl_nil (And.intro (by first | exact drawOk_of (by decide +kernel) | (simp only [List.map_cons, List.map_nil]; exact drawOk_of (by decide +kernel)) | decide) ?_)))
            refine Awp.ghost (nx' := 400) (S' := mkS [(0, .sl (wls l)), (2, .v (.string p)), (3, .v (.int .i64 a)), (4, .v (.int .i64 h)), (12, .v (.int .i64 j)), (14, .own 1), (15, .v (.int .i64 k)), (16, .bp 2 0)] [(1, .row (wls O) 2 47), (2, .box [.v (.string q.nm), .sl (sks q.sk)])]) ?_ ?_
            · clear hsone hat hz
              (apply Ghost.mk [(2, 177)] [175]; (case hdead => rfl); (case hinj => rfl); (case hV => (simp only [go_sem, *]) <;> (repeat' (first | refine And.intro ?_ ?_ | exact .bp rfl (by decide) | exact .own rfl (by decide)))); (case hB => (simp only [go_sem, *]) <;> (repeat' (first | refine And.intro ?_ ?_ | exact ⟨_, rfl, box_low rfl⟩ | exact ⟨_, rfl, .rowE (by first | rfl | omega | (simp; done) | (rw [wrap_i64] <;> (try simp only [Int.natCast_add]) <;> omega) | (simp [*]; done))⟩))))
            clear hsone hat hz
            repeat' (first
    | (apply Awp.sreg; (case hn => (simp only [List.length_cons, List.length_nil, Nat.reduceAdd] <;> rfl)))
    | (refine st_nil ?_)
    | (apply st_a; (case hc => rfl); (case he => (simp only [go_sem, *] <;> rfl)); (case hu => (simp only [updL_nil, updL_cons] <;> rfl)); (case hp => first | trivial | (simp; done) | (simp; omega)))
    | (apply Awp.reg; (case hn => (simp only [List.length_cons, List.length_nil, Nat.reduceAdd] <;> rfl)))
    | (refine Awp.skip ?_; try simp only [go_sem, *])
    | (apply Awp.cond; (case hc => (simp only [go_sem, *] <;> rfl)); all_goals (intro hg; (try simp only [Bool.not_true, Bool.not_false, reduceCtorEq] at hg)))
    | refine Awp.seq ?_)
            refine ⟨k + 1, ⟨by omega, by omega⟩, by omega, ?_⟩
            rw [hst, ← wls_snoc]
            (apply Ghost.mk [(1, 406)] []; (case hdead => rfl); (case hinj => rfl); (case hV => (simp only [go_sem, *]) <;> (repeat' (first | refine And.intro ?_ ?_ | exact View.int (by first | rfl | omega | (simp; done) | (rw [wrap_i64] <;> (try simp only [Int.natCast_add]) <;> omega) | (simp [*]; done)) | exact .own rfl (by decide)))); (case hB => (simp only [go_sem, *]) <;> (repeat' (first | exact ⟨_, rfl, .rowE (by first | rfl | omega | (simp; done) | (rw [wrap_i64] <;> (try simp only [Int.natCast_add]) <;> omega) | (simp [*]; done))⟩))))
        · have hke : k = l.length := by omega
          subst hke
          have hJ16 : ¬ 16 < J.length := by omega
          rw [if_neg hJ16, outAt_end l j J hjl]
          clear hsk c2 hlt hJl hsj
          have hlt' : ¬ (l.length : Int) < l.length := by omega
          repeat' (first
    | (apply Awp.sreg; (case hn => (simp only [List.length_cons, List.length_nil, Nat.reduceAdd] <;> rfl)))
    | (refine st_nil ?_)
    | (apply st_a; (case hc => rfl); (case he => (simp only [go_sem, *] <;> rfl)); (case hu => (simp only [updL_nil, updL_cons] <;> rfl)); (case hp => first | trivial))
    | (refine Awp.ret ?_; try simp only [go_sem, *])
    | (refine Awp.exit ?_; try simp only [go_sem, *])
    | (apply Awp.cond; (case hc => (simp only [go_sem, *] <;> rfl)); all_goals (intro hg; (try simp only [Bool.not_true, Bool.not_false, reduceCtorEq] at hg)))
    | refine Awp.seq ?_)
          all_goals repeat' (first | exact Lower.int (by first | rfl | (simp only [true_and, Bool.true_and, Bool.false_and, Bool.and_true, Bool.and_false, Bool.true_or, Bool.false_or, reduceIte, Bool.false_eq_true, *]; done) | (simp only [true_and, reduceIte, Bool.false_eq_true, *] <;> rfl) | (simp [true_and]; done) | (simp_all [true_and]; done) | omega) | exact Lower.ownE (by simp only [go_sem, *] <;> rfl) (by first | rfl | (simp only [true_and, Bool.true_and, Bool.false_and, Bool.and_true, Bool.and_false, Bool.true_or, Bool.false_or, reduceIte, Bool.false_eq_true, *]; done) | (simp only [true_and, reduceIte, Bool.false_eq_true, *] <;> rfl) | (simp [true_and]; done) | (simp_all [true_and]; done) | omega) | refine Lower.tupF ?_ | refine All2.cons ?_ ?_ | exact All2.nil)
theorem renE_len {l : List Wl} {nm p : ByteArray} {a h : Int} (hl : l.length ≤ 40) (hsk : ∀ i, i < l.length → (l.getD i zeroWl).sk.length ≤ 40) : (renE l nm p a h).1.length ≤ 40 ∧ ∀ i, i < (renE l nm p a h).1.length → ((renE l nm p a h).1.getD i zeroWl).sk.length ≤ 41 := by
  unfold renE
  split
  · exact ⟨by simp, by simp⟩
  split
  · exact ⟨by simp, by simp⟩
  split
  · exact ⟨by simp, by simp⟩
  unfold renAt
  split
  · exact ⟨by simp, by simp⟩
  · rename_i hJ
    refine ⟨by simpa using hl, fun i hi => ?_⟩
    have hi' : i < l.length := by simpa using hi
    have e : (l.set (idxF (sameN nm) l).toNat ⟨(l.getD (idxF (sameN nm) l).toNat zeroWl).nm, renJ l p a h (idxF (sameN nm) l).toNat⟩).getD i zeroWl = if (idxF (sameN nm) l).toNat = i then ⟨(l.getD (idxF (sameN nm) l).toNat zeroWl).nm, renJ l p a h (idxF (sameN nm) l).toNat⟩ else l.getD i zeroWl := by
      simp only [List.getD_eq_getElem?_getD, List.getElem?_set]
      by_cases h : (idxF (sameN nm) l).toNat = i
      · rw [if_pos h, if_pos h, if_pos (by omega)]; rfl
      · rw [if_neg h, if_neg h]
    show (List.getD (l.set _ _) i zeroWl).sk.length ≤ 41
    rw [e]
    split
    · show (renJ l p a h _).length ≤ 41
      omega
    · have := hsk i hi'; omega
theorem renews_ok (l : List Wl) (x : Ak) : Pure Try.prog 5 [.sl (wls l), x.av] (.v (.bool true)) := by
  have c0 := right_ok l
  cases h1 : rightB l
  · rw [h1] at c0
    refine fn_pure Try.F5 (Nat.le_of_ble_eq_true rfl) ?_; unfold Try.ac5
    repeat' (first
    | (apply Awp.sreg; (case hn => (simp only [List.length_cons, List.length_nil, Nat.reduceAdd] <;> rfl)))
    | (refine st_nil ?_)
    | (apply st_a; (case hc => rfl); (case he => (simp only [go_sem, *] <;> rfl)); (case hu => (simp only [updL_nil, updL_cons] <;> rfl)); (case hp => first | trivial))
    | (apply st_m; (case hc => rfl); (case hg => (simp only [go_sem, *] <;> rfl)); (case he => (intro hQz; (try simp only [wantB_t, wantB_f, Bool.and_eq_true, Bool.not_eq_true', Bool.not_true, Bool.not_false, and_true, true_and] at hQz); simp only [go_sem, *] <;> rfl)); (case hp => (intro hQz; (try simp only [wantB_t, wantB_f, Bool.and_eq_true, Bool.not_eq_true', Bool.or_eq_false_iff, decide_eq_true_eq, decide_eq_false_iff_not, beq_iff_eq, beq_eq_false_iff_ne, bne_iff_ne, bne_eq_false_iff_eq, Int.not_lt, Int.not_le, Int.ofNat_lt, Int.ofNat_le] at hQz); first | trivial)))
    | (apply st_c; (case hc => (simp only [go_sem, *] <;> rfl)); (case hl => (simp only [go_sem, *] <;> rfl)); (case hn => (simp only [go_sem, *] <;> rfl)); (case hp => first | exact c0 | (have hXz := c0; simp only [go_sem, *] at hXz; exact hXz)))
    | (apply st_c; (case hc => (simp only [go_sem, *] <;> rfl)); (case hl => (simp only [go_sem, *] <;> rfl)); (case hn => (simp only [go_sem, *] <;> rfl)); (case hp => first | exact awake_ok | (have hXz := awake_ok; simp only [go_sem, *] at hXz; exact hXz)))
    | (refine Awp.ret ?_; try simp only [go_sem, *])
    | (apply Awp.cond; (case hc => (simp only [go_sem, *] <;> rfl)); all_goals (intro hg; (try simp only [Bool.not_true, Bool.not_false, reduceCtorEq] at hg)))
    | refine Awp.seq ?_)
    all_goals repeat' (first | exact Lower.bool (by first | rfl | (simp only [true_and, Bool.true_and, Bool.false_and, Bool.and_true, Bool.and_false, Bool.true_or, Bool.false_or, reduceIte, Bool.false_eq_true, *]; done) | (simp only [true_and, reduceIte, Bool.false_eq_true, *] <;> rfl) | (simp [true_and]; done) | (simp_all [true_and]; done) | omega))
  rw [h1] at c0
  by_cases hp : (100 : Int) < x.p.size
  · refine fn_pure Try.F5 (Nat.le_of_ble_eq_true rfl) ?_; unfold Try.ac5
    repeat' (first
    | (apply Awp.sreg; (case hn => (simp only [List.length_cons, List.length_nil, Nat.reduceAdd] <;> rfl)))
    | (refine st_nil ?_)
    | (apply st_a; (case hc => rfl); (case he => (simp only [go_sem, *] <;> rfl)); (case hu => (simp only [updL_nil, updL_cons] <;> rfl)); (case hp => first | trivial))
    | (apply st_m; (case hc => rfl); (case hg => (simp only [go_sem, *] <;> rfl)); (case he => (intro hQz; (try simp only [wantB_t, wantB_f, Bool.and_eq_true, Bool.not_eq_true', Bool.not_true, Bool.not_false, and_true, true_and] at hQz); simp only [go_sem, *] <;> rfl)); (case hp => (intro hQz; (try simp only [wantB_t, wantB_f, Bool.and_eq_true, Bool.not_eq_true', Bool.or_eq_false_iff, decide_eq_true_eq, decide_eq_false_iff_not, beq_iff_eq, beq_eq_false_iff_ne, bne_iff_ne, bne_eq_false_iff_eq, Int.not_lt, Int.not_le, Int.ofNat_lt, Int.ofNat_le] at hQz); first | trivial)))
    | (apply st_c; (case hc => (simp only [go_sem, *] <;> rfl)); (case hl => (simp only [go_sem, *] <;> rfl)); (case hn => (simp only [go_sem, *] <;> rfl)); (case hp => first | exact c0 | (have hXz := c0; simp only [go_sem, *] at hXz; exact hXz)))
    | (apply st_c; (case hc => (simp only [go_sem, *] <;> rfl)); (case hl => (simp only [go_sem, *] <;> rfl)); (case hn => (simp only [go_sem, *] <;> rfl)); (case hp => first | exact awake_ok | (have hXz := awake_ok; simp only [go_sem, *] at hXz; exact hXz)))
    | (refine Awp.ret ?_; try simp only [go_sem, *])
    | (apply Awp.cond; (case hc => (simp only [go_sem, *] <;> rfl)); all_goals (intro hg; (try simp only [Bool.not_true, Bool.not_false, reduceCtorEq] at hg)))
    | refine Awp.seq ?_)
    all_goals repeat' (first | exact Lower.bool (by first | rfl | (simp only [true_and, Bool.true_and, Bool.false_and, Bool.and_true, Bool.and_false, Bool.true_or, Bool.false_or, reduceIte, Bool.false_eq_true, *]; done) | (simp only [true_and, reduceIte, Bool.false_eq_true, *] <;> rfl) | (simp [true_and]; done) | (simp_all [true_and]; done) | omega))
  obtain ⟨hl, hs, hgs⟩ := right_get h1
  have hs' : ∀ i, i < l.length → (l.getD i zeroWl).sk.length ≤ 40 := fun i hi => by have := hs i hi; omega
  have hc : chkE l = 0 := by
    unfold rightB at h1
    rw [Bool.and_eq_true, beq_iff_eq] at h1
    exact h1.2
  have c1 := renew_ok l x.nm x.p x.a x.h (by omega) hs' hgs
  have c2 := rrenew_ok l x.nm x.p x.a x.h (by omega) hs' (names_one hc x.nm)
  obtain ⟨hL, hS⟩ := renE_len (nm := x.nm) (p := x.p) (a := x.a) (h := x.h) (show l.length ≤ 40 by omega) hs'
  have c3 := samewl_ok (renE l x.nm x.p x.a x.h).1 (by omega) (fun i hi => by have := hS i hi; omega)
  clear h1 hs hs' hgs hl hL hS hc
  generalize (renE l x.nm x.p x.a x.h).1 = L at *
  generalize (renE l x.nm x.p x.a x.h).2 = E at *
  have e1 : (E == E) = true := by simp
  refine fn_pure Try.F5 (Nat.le_of_ble_eq_true rfl) ?_; unfold Try.ac5
  repeat' (first
    | (apply Awp.sreg; (case hn => (simp only [List.length_cons, List.length_nil, Nat.reduceAdd] <;> rfl)))
    | (refine st_nil ?_)
    | (apply st_a; (case hc => rfl); (case he => (simp only [go_sem, *] <;> rfl)); (case hu => (simp only [updL_nil, updL_cons] <;> rfl)); (case hp => first | trivial))
    | (apply st_m; (case hc => rfl); (case hg => (simp only [go_sem, *] <;> rfl)); (case he => (intro hQz; (try simp only [wantB_t, wantB_f, Bool.and_eq_true, Bool.not_eq_true', Bool.not_true, Bool.not_false, and_true, true_and] at hQz); simp only [go_sem, *] <;> rfl)); (case hp => (intro hQz; (try simp only [wantB_t, wantB_f, Bool.and_eq_true, Bool.not_eq_true', Bool.or_eq_false_iff, decide_eq_true_eq, decide_eq_false_iff_not, beq_iff_eq, beq_eq_false_iff_ne, bne_iff_ne, bne_eq_false_iff_eq, Int.not_lt, Int.not_le, Int.ofNat_lt, Int.ofNat_le] at hQz); first | trivial)))
    | (apply st_c; (case hc => (simp only [go_sem, *] <;> rfl)); (case hl => (simp only [go_sem, *] <;> rfl)); (case hn => (simp only [go_sem, *] <;> rfl)); (case hp => first | exact c0 | (have hXz := c0; simp only [go_sem, *] at hXz; exact hXz)))
    | (apply st_c; (case hc => (simp only [go_sem, *] <;> rfl)); (case hl => (simp only [go_sem, *] <;> rfl)); (case hn => (simp only [go_sem, *] <;> rfl)); (case hp => first | exact c1 | (have hXz := c1; simp only [go_sem, *] at hXz; exact hXz)))
    | (apply st_c; (case hc => (simp only [go_sem, *] <;> rfl)); (case hl => (simp only [go_sem, *] <;> rfl)); (case hn => (simp only [go_sem, *] <;> rfl)); (case hp => first | exact c2 | (have hXz := c2; simp only [go_sem, *] at hXz; exact hXz)))
    | (apply st_c; (case hc => (simp only [go_sem, *] <;> rfl)); (case hl => (simp only [go_sem, *] <;> rfl)); (case hn => (simp only [go_sem, *] <;> rfl)); (case hp => first | exact c3 | (have hXz := c3; simp only [go_sem, *] at hXz; exact hXz)))
    | (apply st_mc; (case hop => rfl); (case hg => (simp only [go_sem, *] <;> rfl)); (case hc => (intro hQz; (try simp only [wantB_t, wantB_f, Bool.and_eq_true, Bool.not_eq_true', Bool.not_true, Bool.not_false, and_true, true_and] at hQz); simp only [go_sem, *] <;> rfl)); (case hl => (intro hQz; (try simp only [wantB_t, wantB_f, Bool.and_eq_true, Bool.not_eq_true', Bool.not_true, Bool.not_false, and_true, true_and] at hQz); simp only [go_sem, *] <;> rfl)); (case hn => (intro hQz; (try simp only [wantB_t, wantB_f, Bool.and_eq_true, Bool.not_eq_true', Bool.not_true, Bool.not_false, and_true, true_and] at hQz); simp only [go_sem, *] <;> rfl)); (case hp => intro hQz; first | exact awake_ok | (have hXz := awake_ok; simp only [go_sem, *] at hXz; exact hXz)))
    | (refine Awp.ret ?_; try simp only [go_sem, *])
    | (refine Awp.skip ?_; try simp only [go_sem, *])
    | (apply Awp.cond; (case hc => (simp only [go_sem, *] <;> rfl)); all_goals (intro hg; (try simp only [Bool.not_true, Bool.not_false, reduceCtorEq] at hg)))
    | refine Awp.seq ?_)
  all_goals repeat' (first | exact Lower.bool (by first | rfl | (simp only [true_and, Bool.true_and, Bool.false_and, Bool.and_true, Bool.and_false, Bool.true_or, Bool.false_or, reduceIte, Bool.false_eq_true, *]; done) | (simp only [true_and, reduceIte, Bool.false_eq_true, *] <;> rfl) | (simp [true_and]; done) | (simp_all [true_and]; done) | omega))
end Go.Proofs
end
