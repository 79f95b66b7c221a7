import Derived.Test.YtpmcoiomcjgehaaWalkC
import Derived.Test.YtpmcoiomcjgehaaWalkB
section
set_option linter.unusedVariables false
set_option linter.unusedSimpArgs false
namespace Go.Proofs
open Go Go.Ab
set_option maxHeartbeats 4000000
set_option maxRecDepth 100000
set_option linter.unusedSimpArgs false
set_option linter.unusedVariables false
attribute [local irreducible] Awp aops aopsL Go.Ab.Pure PureOwn
theorem step_yes (a b O : List Sp) (g : Nat) (f : Bool → Bool → Bool) (hg : ∀ x y, Pure Try.prog g [.v (.bool x), .v (.bool y)] (.v (.bool (f x y)))) (ha : Canon a) (hb : Canon b) (hal : a.length < 10000) (hbl : b.length < 10000) (hO : O.length < 100000)
    (p q : Int) (i k nm : Nat) (hi : i ≤ nx a p) (hk : k ≤ nx b p) (hnm : 7 ≤ nm) (hf : f (hasB a p) (hasB b p) = true) :
    CallC Try.prog 51 (stArgs p q) (stHl a b O g i k) nm (.tup []) [(4, some (.box [.v (.int .i64 (nx a p))])), (0, some (.box [.sl (sps a)])), (5, some (.box [.v (.int .i64 (nx b p))])), (1, some (.box [.sl (sps b)])), (2, some (.box [.fn g []])), (6, none), (nm, some (.row (sps (O ++ [⟨p, q⟩])) 2 29)), (3, some (.box [.own nm]))] := by
  have hc := hg (hasB a p) (hasB b p)
  rw [hf] at hc
  have e1 := has_nx ha p
  have e2 := has_nx hb p
  have la : ∀ j, j < nx a p → j < a.length ∧ (a.getD j zeroSp).b ≤ p := fun j hj => ⟨Nat.lt_of_lt_of_le hj (nx_le a p), nx_lt hj⟩
  have lb : ∀ j, j < nx b p → j < b.length ∧ (b.getD j zeroSp).b ≤ p := fun j hj => ⟨Nat.lt_of_lt_of_le hj (nx_le b p), nx_lt hj⟩
  have hA : (∃ s : Sp, (sps a).getD (nx a p) [] = s.cells ∧ s.cells.length = 2 ∧ ((nx a p : Int) < a.length) ∧ decide (s.b ≤ p) = false ∧ decide (s.a ≤ p) = hasB a p) ∨ ((¬ (nx a p : Int) < a.length) ∧ hasB a p = false) := by
    by_cases h : nx a p < a.length
    · refine .inl ⟨a.getD (nx a p) zeroSp, sps_at a _ h, rfl, by omega, decide_eq_false (by have := nx_at h; omega), ?_⟩
      rw [e1, decide_eq_true h, Bool.true_and]
    · refine .inr ⟨by omega, ?_⟩
      rw [e1, decide_eq_false h, Bool.false_and]
  have hB : (∃ s : Sp, (sps b).getD (nx b p) [] = s.cells ∧ s.cells.length = 2 ∧ ((nx b p : Int) < b.length) ∧ decide (s.b ≤ p) = false ∧ decide (s.a ≤ p) = hasB b p) ∨ ((¬ (nx b p : Int) < b.length) ∧ hasB b p = false) := by
    by_cases h : nx b p < b.length
    · refine .inl ⟨b.getD (nx b p) zeroSp, sps_at b _ h, rfl, by omega, decide_eq_false (by have := nx_at h; omega), ?_⟩
      rw [e2, decide_eq_true h, Bool.true_and]
    · refine .inr ⟨by omega, ?_⟩
      rw [e2, decide_eq_false h, Bool.false_and]
  have ila := nx_le a p
  have ilb := nx_le b p
  have eO := sps_snoc O ⟨p, q⟩
  have eO1 := sps_one O
  have eO2 := sps_len O
  have ean := sps_len a
  have ebn := sps_len b
  dsimp only at eO
  clear e1 e2 ha hb hf hg
  generalize nx a p = I at *
  generalize nx b p = J at *
  generalize hasB a p = X at *
  generalize hasB b p = Y at *
  unfold stArgs stHl
  refine fn_cc Try.F51 (Nat.le_of_ble_eq_true rfl) (bs := 7) ?_ ?_ ?_ ?_ ?_ ?_ ?_
  · simp
  · simp; omega
  · simp
  · simp
  · simp only [List.map_cons, List.map_nil, List.mem_cons, List.not_mem_nil, or_false]
    rintro p (rfl | rfl | rfl | rfl | rfl | rfl | rfl)
    · exact .box rfl fun j hj => .low (by match j, hj with | 0, _ => exact .same _ rfl)
    · exact .box rfl fun j hj => .low (by match j, hj with | 0, _ => exact .same _ rfl)
    · exact .box rfl fun j hj => .low (by match j, hj with | 0, _ => exact .same _ rfl)
    · exact .box rfl fun j hj => .low (by match j, hj with | 0, _ => exact .same _ rfl)
    · exact .box rfl fun j hj => by match j, hj with | 0, _ => exact .fn rfl fun j hj => by simp at hj
    · exact .box rfl fun j hj => by match j, hj with | 0, _ => exact .own rfl (by simp)
    · exact .row rfl
  · intro j hj
    match j, hj with
    | 0, _ => exact .low (.same _ rfl)
    | 1, _ => exact .low (.same _ rfl)
    | 2, _ => exact .bp rfl (by simp)
    | 3, _ => exact .bp rfl (by simp)
    | 4, _ => exact .bp rfl (by simp)
    | 5, _ => exact .bp rfl (by simp)
    | 6, _ => exact .bp rfl (by simp)
    | 7, _ => exact .bp rfl (by simp)
  · unfold Try.ac51
    refine Awp.ghost (nx' := 7) (S' := stSt a b O g p q i k) (by
      unfold stSt stHl
      (apply Ghost.mkB []; (case hnb => rfl); (case hbx => omega); (case hinj => rfl); (case hV => (simp only [go_sem, *]) <;> (repeat' (first | refine And.intro ?_ ?_ | exact .bp rfl (by decide)))); (case hB => (simp only [go_sem, *]) <;> (repeat' (first | refine And.intro ?_ ?_ | exact ⟨_, rfl, BView.boxF rfl⟩ | exact ⟨_, rfl, BView.own1 rfl (by decide)⟩ | exact ⟨_, rfl, .rowE (by first | rfl | omega | (simp; done) | (rw [wrap_i64] <;> (try simp only [Int.natCast_add]) <;> omega) | (simp [*]; done))⟩ | exact ⟨_, rfl, BView.fn0⟩))))) ?_
    unfold stSt stHl
    repeat' (first
    | refine Awp.block ?_
    | refine Awp.seq ?_)
    refine Awp.loop (fun j : Nat => j ≤ I) 100 (fun j => stSt a b O g p q j k) (fun j => I - j) i hi ?_ ?_
    · unfold stSt stHl
      (apply Ghost.mkB []; (case hnb => rfl); (case hbx => omega); (case hinj => rfl); (case hV => (simp only [go_sem, *]) <;> (repeat' (first | refine And.intro ?_ ?_ | exact .bp rfl (by decide)))); (case hB => (simp only [go_sem, *]) <;> (repeat' (first | refine And.intro ?_ ?_ | exact ⟨_, rfl, BView.boxF rfl⟩ | exact ⟨_, rfl, BView.own1 rfl (by decide)⟩ | exact ⟨_, rfl, .rowE (by first | rfl | omega | (simp; done) | (rw [wrap_i64] <;> (try simp only [Int.natCast_add]) <;> omega) | (simp [*]; done))⟩ | exact ⟨_, rfl, BView.fn0⟩))))
    · intro j hj
      by_cases hjI : j < I
      · obtain ⟨h1, h2⟩ := la j hjI
        have h1' : (j : Int) < a.length := by omega
        have hw : IntKind.i64.wrap ((j : Int) + 1) = ((j + 1 : Nat) : Int) := by rw [wrap_i64 (by omega) (by omega)]; simp
        have h2' : decide ((a.getD j zeroSp).b ≤ p) = true := decide_eq_true h2
        have hat := sps_at a j h1
        have hz : ((a.getD j zeroSp).cells).length = 2 := rfl
        generalize a.getD j zeroSp = s at *
        clear h2 la lb hA hB hc
        unfold stSt stHl
        repeat' (first
    | (apply Awp.sreg; (case hn => (simp only [List.length_cons, List.length_nil, Nat.reduceAdd] <;> rfl)))
    | (refine st_nil ?_)
    | (apply st_a; (case hc => rfl); (case he => (simp only [go_sem, *] <;> rfl)); (case hu => (simp only [updL_nil, updL_cons] <;> rfl)); (case hp => first | trivial | assumption | omega | (simp; done) | (simp; omega) | (simp [*]; done) | ((repeat' (refine And.intro ?_ ?_)) <;> first | trivial | assumption | omega | (simp; done) | (simp; omega) | (simp [*]; done))))
    | (apply st_m; (case hc => rfl); (case hg => (simp only [go_sem, *] <;> rfl)); (case he => (intro hQz; (try simp only [wantB_t, wantB_f, Bool.and_eq_true, Bool.not_eq_true', Bool.not_true, Bool.not_false, and_true, true_and] at hQz); simp only [go_sem, *] <;> rfl)); (case hp => (intro hQz; (try simp only [wantB_t, wantB_f, Bool.and_eq_true, Bool.not_eq_true', Bool.or_eq_false_iff, decide_eq_true_eq, decide_eq_false_iff_not, beq_iff_eq, beq_eq_false_iff_ne, bne_iff_ne, bne_eq_false_iff_eq, Int.not_lt, Int.not_le, Int.ofNat_lt, Int.ofNat_le] at hQz); first | trivial | assumption | omega | (simp; done) | (simp; omega) | (simp [*]; done) | ((repeat' (refine And.intro ?_ ?_)) <;> first | trivial | assumption | omega | (simp; done) | (simp; omega) | (simp [*]; done)))))
    | (apply Awp.reg; (case hn => (simp only [List.length_cons, List.length_nil, Nat.reduceAdd] <;> rfl)))
    | (refine Awp.skip ?_; try simp only [go_sem, *])
    | refine Awp.block ?_
    | (apply Awp.cond; (case hc => (simp only [go_sem, *] <;> rfl)); all_goals (intro hg; (try simp only [Bool.not_true, Bool.not_false, reduceCtorEq] at hg)))
    | refine Awp.seq ?_)
        refine ⟨j + 1, by omega, by omega, ?_⟩
        (apply Ghost.mkB []; (case hnb => rfl); (case hbx => omega); (case hinj => rfl); (case hV => (simp only [go_sem, *]) <;> (repeat' (first | refine And.intro ?_ ?_ | exact .bp rfl (by decide)))); (case hB => (simp only [go_sem, *]) <;> (repeat' (first | refine And.intro ?_ ?_ | exact ⟨_, rfl, BView.boxF rfl⟩ | exact ⟨_, rfl, BView.own1 rfl (by decide)⟩ | exact ⟨_, rfl, .rowE (by first | rfl | omega | (simp; done) | (rw [wrap_i64] <;> (try simp only [Int.natCast_add]) <;> omega) | (simp [*]; done))⟩ | exact ⟨_, rfl, BView.fn0⟩))))
      · have hjI' : j = I := by omega
        subst hjI'
        clear hjI la hj hi
        rcases hA with ⟨s, a1, a2, a3, a4, a5⟩ | ⟨a1, rfl⟩ <;> rcases hB with ⟨t, b1, b2, b3, b4, b5⟩ | ⟨b1, rfl⟩
        all_goals
          unfold stSt stHl
          repeat' (first
    | (apply Awp.sreg; (case hn => (simp only [List.length_cons, List.length_nil, Nat.reduceAdd] <;> rfl)))
    | (refine st_nil ?_)
    | (apply st_a; (case hc => rfl); (case he => (simp only [go_sem, *] <;> rfl)); (case hu => (simp only [updL_nil, updL_cons] <;> rfl)); (case hp => first | trivial | assumption | omega | (simp; done) | (simp; omega) | (simp [*]; done) | ((repeat' (refine And.intro ?_ ?_)) <;> first | trivial | assumption | omega | (simp; done) | (simp; omega) | (simp [*]; done))))
    | (apply st_m; (case hc => rfl); (case hg => (simp only [go_sem, *] <;> rfl)); (case he => (intro hQz; (try simp only [wantB_t, wantB_f, Bool.and_eq_true, Bool.not_eq_true', Bool.not_true, Bool.not_false, and_true, true_and] at hQz); simp only [go_sem, *] <;> rfl)); (case hp => (intro hQz; (try simp only [wantB_t, wantB_f, Bool.and_eq_true, Bool.not_eq_true', Bool.or_eq_false_iff, decide_eq_true_eq, decide_eq_false_iff_not, beq_iff_eq, beq_eq_false_iff_ne, bne_iff_ne, bne_eq_false_iff_eq, Int.not_lt, Int.not_le, Int.ofNat_lt, Int.ofNat_le] at hQz); first | trivial | assumption | omega | (simp; done) | (simp; omega) | (simp [*]; done) | ((repeat' (refine And.intro ?_ ?_)) <;> first | trivial | assumption | omega | (simp; done) | (simp; omega) | (simp [*]; done)))))
    | (refine Awp.exit ?_; try simp only [go_sem, *])
    | refine Awp.block ?_
    | (apply Awp.cond; (case hc => (simp only [go_sem, *] <;> rfl)); all_goals (intro hg; (try simp only [Bool.not_true, Bool.not_false, reduceCtorEq] at hg)))
    | refine Awp.seq ?_)
          refine Awp.loop (fun l : Nat => l ≤ J) 200 (fun l => stSt a b O g p q j l) (fun l => J - l) k hk ?_ ?_
          · unfold stSt stHl
            (apply Ghost.mkB []; (case hnb => rfl); (case hbx => omega); (case hinj => rfl); (case hV => (simp only [go_sem, *]) <;> (repeat' (first | refine And.intro ?_ ?_ | exact .bp rfl (by decide)))); (case hB => (simp only [go_sem, *]) <;> (repeat' (first | refine And.intro ?_ ?_ | exact ⟨_, rfl, BView.boxF rfl⟩ | exact ⟨_, rfl, BView.own1 rfl (by decide)⟩ | exact ⟨_, rfl, .rowE (by first | rfl | omega | (simp; done) | (rw [wrap_i64] <;> (try simp only [Int.natCast_add]) <;> omega) | (simp [*]; done))⟩ | exact ⟨_, rfl, BView.fn0⟩))))
          · intro l hl
            by_cases hlJ : l < J
            · obtain ⟨h1, h2⟩ := lb l hlJ
              have h1' : (l : Int) < b.length := by omega
              have hw : IntKind.i64.wrap ((l : Int) + 1) = ((l + 1 : Nat) : Int) := by rw [wrap_i64 (by omega) (by omega)]; simp
              have h2' : decide ((b.getD l zeroSp).b ≤ p) = true := decide_eq_true h2
              have hat := sps_at b l h1
              have hz : ((b.getD l zeroSp).cells).length = 2 := rfl
              generalize b.getD l zeroSp = u at *
              clear h2 lb hc
              unfold stSt stHl
              repeat' (first
    | (apply Awp.sreg; (case hn => (simp only [List.length_cons, List.length_nil, Nat.reduceAdd] <;> rfl)))
    | (refine st_nil ?_)
    | (apply st_a; (case hc => rfl); (case he => (simp only [go_sem, *] <;> rfl)); (case hu => (simp only [updL_nil, updL_cons] <;> rfl)); (case hp => first | trivial | assumption | omega | (simp; done) | (simp; omega) | (simp [*]; done) | ((repeat' (refine And.intro ?_ ?_)) <;> first | trivial | assumption | omega | (simp; done) | (simp; omega) | (simp [*]; done))))
    | (apply st_m; (case hc => rfl); (case hg => (simp only [go_sem, *] <;> rfl)); (case he => (intro hQz; (try simp only [wantB_t, wantB_f, Bool.and_eq_true, Bool.not_eq_true', Bool.not_true, Bool.not_false, and_true, true_and] at hQz); simp only [go_sem, *] <;> rfl)); (case hp => (intro hQz; (try simp only [wantB_t, wantB_f, Bool.and_eq_true, Bool.not_eq_true', Bool.or_eq_false_iff, decide_eq_true_eq, decide_eq_false_iff_not, beq_iff_eq, beq_eq_false_iff_ne, bne_iff_ne, bne_eq_false_iff_eq, Int.not_lt, Int.not_le, Int.ofNat_lt, Int.ofNat_le] at hQz); first | trivial | assumption | omega | (simp; done) | (simp; omega) | (simp [*]; done) | ((repeat' (refine And.intro ?_ ?_)) <;> first | trivial | assumption | omega | (simp; done) | (simp; omega) | (simp [*]; done)))))
    | (apply Awp.reg; (case hn => (simp only [List.length_cons, List.length_nil, Nat.reduceAdd] <;> rfl)))
    | (refine Awp.skip ?_; try simp only [go_sem, *])
    | refine Awp.block ?_
    | (apply Awp.cond; (case hc => (simp only [go_sem, *] <;> rfl)); all_goals (intro hg; (try simp only [Bool.not_true, Bool.not_false, reduceCtorEq] at hg)))
    | refine Awp.seq ?_)
              refine ⟨l + 1, by omega, by omega, ?_⟩
              (apply Ghost.mkB []; (case hnb => rfl); (case hbx => omega); (case hinj => rfl); (case hV => (simp only [go_sem, *]) <;> (repeat' (first | refine And.intro ?_ ?_ | exact .bp rfl (by decide)))); (case hB => (simp only [go_sem, *]) <;> (repeat' (first | refine And.intro ?_ ?_ | exact ⟨_, rfl, BView.boxF rfl⟩ | exact ⟨_, rfl, BView.own1 rfl (by decide)⟩ | exact ⟨_, rfl, .rowE (by first | rfl | omega | (simp; done) | (rw [wrap_i64] <;> (try simp only [Int.natCast_add]) <;> omega) | (simp [*]; done))⟩ | exact ⟨_, rfl, BView.fn0⟩))))
            · have hlJ' : l = J := by omega
              subst hlJ'
              clear hlJ lb hl hk
              unfold stSt stHl
              repeat' (first
    | (apply Awp.sreg; (case hn => (simp only [List.length_cons, List.length_nil, Nat.reduceAdd] <;> rfl)))
    | (apply Awp.sdraw; (case hn => (simp only [List.length_cons, List.length_nil, Nat.reduceAdd] <;> rfl)))
    | (refine st_nil ?_)
    | (apply st_a; (case hc => rfl); (case he => (simp only [go_sem, *] <;> rfl)); (case hu => (simp only [updL_nil, updL_cons] <;> rfl)); (case hp => first | trivial | assumption | omega | (simp; done) | (simp; omega) | (simp [*]; done) | ((repeat' (refine And.intro ?_ ?_)) <;> first | trivial | assumption | omega | (simp; done) | (simp; omega) | (simp [*]; done))))
    | (apply st_m; (case hc => rfl); (case hg => (simp only [go_sem, *] <;> rfl)); (case he => (intro hQz; (try simp only [wantB_t, wantB_f, Bool.and_eq_true, Bool.not_eq_true', Bool.not_true, Bool.not_false, and_true, true_and] at hQz); simp only [go_sem, *] <;> rfl)); (case hp => (intro hQz; (try simp only [wantB_t, wantB_f, Bool.and_eq_true, Bool.not_eq_true', Bool.or_eq_false_iff, decide_eq_true_eq, decide_eq_false_iff_not, beq_iff_eq, beq_eq_false_iff_ne, bne_iff_ne, bne_eq_false_iff_eq, Int.not_lt, Int.not_le, Int.ofNat_lt, Int.ofNat_le] at hQz); first | trivial | assumption | omega | (simp; done) | (simp; omega) | (simp [*]; done) | ((repeat' (refine And.intro ?_ ?_)) <;> first | trivial | assumption | omega | (simp; done) | (simp; omega) | (simp [*]; done)))))
    | (apply Awp.reg; (case hn => (simp only [List.length_cons, List.length_nil, Nat.reduceAdd] <;> rfl)))
    | (refine Awp.exit ?_; try simp only [go_sem, *])
    | (apply Awp.cond; (case hc => (simp only [go_sem, *] <;> rfl)); all_goals (intro hg; (try simp only [Bool.not_true, Bool.not_false, reduceCtorEq] at hg)))
    | refine Awp.seq ?_
    | (apply sl_a; (case hc => rfl); (case he => (simp only [go_sem, *] <;> rfl)); (case hu => (simp only [updL_nil, updL_cons] <;> rfl)); (case hl => (simp only [List.map_cons, List.map_nil] <;> rfl)); (case hp => first | trivial | assumption | omega | (simp; done) | (simp; omega) | (simp [*]; done) | ((repeat' (refine And.intro ?_ ?_)) <;> first | trivial | assumption | omega | (simp; done) | (simp; omega) | (simp [*]; done))))
    | (apply sl_gn; (case hv => (simp only [go_sem, *] <;> rfl)); (case hbw => rfl))
    | (apply sl_ga; (case hb => rfl); (case hv => (simp only [go_sem, *] <;> rfl)); (case he => (simp only [go_sem, *] <;> rfl)); (case hu => (simp only [updL_nil, updL_cons] <;> rfl)); (case hl => (simp only [List.map_cons, List.map_nil] <;> rfl)); (case hp => first | trivial | assumption | omega | (simp; done) | (simp; omega) | (simp [*]; done) | ((repeat' (refine And.intro ?_ ?_)) <;> first | trivial | assumption | omega | (simp; done) | (simp; omega) | (simp [*]; done))))
    | (apply sl_c; (case hc => (simp only [go_sem, *] <;> rfl)); (case hl => (simp only [go_sem, *] <;> rfl)); (case hn => (simp only [go_sem, *] <;> rfl)); (case hp => first | exact hc | (have hXz := hc; simp only [go_sem, *] at hXz; exact hXz)); (case hd => first | exact .inl rfl | exact .inr (.v _) | exact .inr .any | exact .inr .nils); (case hm => first | decide | (simp; done)))
    | (refine sl_nil (And.intro (by first | exact drawOk_of (by decide +kernel) | (simp only [List.map_cons, List.map_nil]; exact drawOk_of (by decide +kernel)) | decide) ?_)))
              have hr : ∀ k, k < 7 → rn nm 246 k = k := fun k hk => by unfold rn; rw [if_neg (by omega)]
              have hrn : rn nm 246 nm = 246 := by unfold rn; rw [if_pos rfl]
              refine ⟨.inl rfl, 246, by omega, .tup rfl fun j hj => by simp at hj, fun k b' hk => ?_⟩
              have hnm0 : (0 : Nat) ≠ nm := by omega
              have hnm1 : (1 : Nat) ≠ nm := by omega
              have hnm2 : (2 : Nat) ≠ nm := by omega
              have hnm3 : (3 : Nat) ≠ nm := by omega
              have hnm4 : (4 : Nat) ≠ nm := by omega
              have hnm5 : (5 : Nat) ≠ nm := by omega
              have hnm6 : (6 : Nat) ≠ nm := by omega
              by_cases h4 : k = 4
              · subst h4
                have e1 : b' = .box [.v (.int .i64 j)] := by simpa [updL, upd, hnm4] using hk.symm
                subst e1
                rw [hr 4 (by omega)]
                exact ⟨_, rfl, .box rfl fun j hj => .low (by match j, hj with | 0, _ => exact .same _ rfl)⟩
              by_cases h0 : k = 0
              · subst h0
                have e1 : b' = .box [.sl (sps a)] := by simpa [updL, upd, hnm0] using hk.symm
                subst e1
                rw [hr 0 (by omega)]
                exact ⟨_, rfl, .box rfl fun j hj => .low (by match j, hj with | 0, _ => exact .same _ rfl)⟩
              by_cases h5 : k = 5
              · subst h5
                have e1 : b' = .box [.v (.int .i64 l)] := by simpa [updL, upd, hnm5] using hk.symm
                subst e1
                rw [hr 5 (by omega)]
                exact ⟨_, rfl, .box rfl fun j hj => .low (by match j, hj with | 0, _ => exact .same _ rfl)⟩
              by_cases h1 : k = 1
              · subst h1
                have e1 : b' = .box [.sl (sps b)] := by simpa [updL, upd, hnm1] using hk.symm
                subst e1
                rw [hr 1 (by omega)]
                exact ⟨_, rfl, .box rfl fun j hj => .low (by match j, hj with | 0, _ => exact .same _ rfl)⟩
              by_cases h2 : k = 2
              · subst h2
                have e1 : b' = .box [.fn g []] := by simpa [updL, upd, hnm2] using hk.symm
                subst e1
                rw [hr 2 (by omega)]
                exact ⟨_, rfl, .box rfl fun j hj => by match j, hj with | 0, _ => exact .fn rfl fun j hj => by simp at hj⟩
              by_cases h3 : k = 3
              · subst h3
                have e1 : b' = .box [.own nm] := by simpa [updL, upd, hnm3] using hk.symm
                subst e1
                rw [hr 3 (by omega)]
                exact ⟨_, rfl, .box rfl fun j hj => by match j, hj with | 0, _ => exact .own hrn (by simp)⟩
              by_cases h6 : k = 6
              · subst h6
                simp [updL, upd, hnm6] at hk
              by_cases hn : k = nm
              · subst hn
                have e1 : b' = .row (sps (O ++ [⟨p, q⟩])) 2 29 := by simpa [updL, upd, h3] using hk.symm
                subst e1
                rw [hrn]
                exact ⟨_, rfl, .row rfl⟩
              simp [updL, upd, listH, h0, h1, h2, h3, h4, h5, h6, hn] at hk
end Go.Proofs
end
section
set_option linter.unusedVariables false
set_option linter.unusedSimpArgs false
namespace Go.Proofs
open Go Go.Ab
set_option maxHeartbeats 4000000
set_option maxRecDepth 100000
set_option linter.unusedSimpArgs false
set_option linter.unusedVariables false
attribute [local irreducible] Awp aops aopsL Go.Ab.Pure PureOwn
theorem ints_two (L : List Int) (x y : Int) : ints L ++ [[.v (.int .i64 x)], [.v (.int .i64 y)]] = ints (L ++ [x, y]) := by simp [ints]
theorem ints_oneL (L : List Int) : ∀ y ∈ ints L, y.length = 1 := by
  intro y hy; obtain ⟨s, _, rfl⟩ := List.mem_map.1 hy; rfl
theorem places_step (C : List Sp) (i : Nat) (h : i < C.length) : placesS (C.take (i + 1)) = placesS (C.take i) ++ [(C.getD i zeroSp).a, (C.getD i zeroSp).b] := by
  unfold placesS
  rw [take_snocP C i h, List.flatMap_append]
  simp
theorem places_len (C : List Sp) : (placesS C).length = 2 * C.length := by
  unfold placesS
  induction C with
  | nil => rfl
  | cons s C ih => simp only [List.flatMap_cons, List.length_append, ih, List.length_cons, List.length_nil]; omega
theorem segs_snoc (f : Int → Bool) (p q : Int) : ∀ l : List Int, segs f (l ++ [p, q]) = segs f (l ++ [p]) ++ (if f p = true then [⟨p, q⟩] else [])
  | [] => by simp [segs]
  | [x] => by simp [segs]
  | x :: y :: l => by
    have := segs_snoc f p q (y :: l)
    simp only [List.cons_append] at this ⊢
    rw [segs, segs, this, List.append_assoc]
theorem segs_len (f : Int → Bool) : ∀ l : List Int, (segs f l).length ≤ l.length
  | [] => by simp [segs]
  | [x] => by simp [segs]
  | x :: y :: l => by
    have := segs_len f (y :: l)
    rw [segs, List.length_append]
    have h : (if f x = true then [(⟨x, y⟩ : Sp)] else []).length ≤ 1 := by split <;> simp
    simp only [List.length_cons] at *
    omega
theorem take_two (P : List Int) (n : Nat) (h : n < P.length) (h1 : 1 ≤ n) : P.take (n + 1) = P.take (n - 1) ++ [P.getD (n - 1) 0, P.getD n 0] ∧ P.take n = P.take (n - 1) ++ [P.getD (n - 1) 0] := by
  have e1 : P.take (n + 1) = P.take n ++ [P.getD n 0] := by
    rw [List.take_add_one, List.getElem?_eq_getElem h]
    simp [List.getD_eq_getElem?_getD, h]
  obtain ⟨m, rfl⟩ : ∃ m, n = m + 1 := ⟨n - 1, by omega⟩
  have e2 : P.take (m + 1) = P.take m ++ [P.getD m 0] := by
    rw [List.take_add_one, List.getElem?_eq_getElem (by omega)]
    simp [List.getD_eq_getElem?_getD, show m < P.length by omega]
  refine ⟨?_, by simpa using e2⟩
  rw [e1, e2]
  simp
def sw0 (ca cb : List Sp) (g : Nat) : AState := mkS [(3, .bp 0 0), (4, .bp 1 0), (5, .bp 2 0)] [(0, .box [.sl (sps ca)]), (1, .box [.sl (sps cb)]), (2, .box [.fn g []])]
def sw1 (ca cb : List Sp) (g : Nat) (C : List Sp) (L : List Int) (i : Nat) : AState := mkS [(3, .bp 0 0), (4, .bp 1 0), (5, .bp 2 0), (7, .own 3), (22, .own 4), (23, .v (.int .i64 C.length)), (24, .v (.int .i64 i))]
  [(0, .box [.sl (sps ca)]), (1, .box [.sl (sps cb)]), (2, .box [.fn g []]), (3, .row (ints L) 1 3), (4, .row (sps C) 2 29)]
def sw2 (ca cb : List Sp) (g : Nat) (O : List Sp) (P : List Int) (q : Nat × Nat × Nat) : AState := mkS [(7, .own 7), (10, .bp 3 0), (13, .fn 51 [.bp 4 0, .bp 0 0, .bp 5 0, .bp 1 0, .bp 2 0, .bp 3 0]), (14, .v (.int .i64 q.1))]
  [(0, .box [.sl (sps ca)]), (1, .box [.sl (sps cb)]), (2, .box [.fn g []]), (3, .box [.own 6]), (4, .box [.v (.int .i64 q.2.1)]), (5, .box [.v (.int .i64 q.2.2)]), (6, .row (sps O) 2 29), (7, .row (ints P) 1 3)]
theorem sweep_ok (g : Nat) (f : Bool → Bool → Bool) (hmem : ∀ x y, Pure Try.prog g [.v (.bool x), .v (.bool y)] (.v (.bool (f x y)))) (hff : f false false = false) (a b R : List Sp) (hal : a.length < 2000) (hbl : b.length < 2000)
    (hR : ∀ n, hasS R n ↔ f (hasB a n) (hasB b n) = true) : PureOwn Try.prog 41 [.sl (sps a), .sl (sps b), .fn g []] (sps (canon R)) 2 29 := by
  have c0 := normal_ok a (by omega)
  have c1 := normal_ok b (by omega)
  have hca := (canon_is a).1
  have hcb := (canon_is b).1
  have hla := canon_len a
  have hlb := canon_len b
  have hsa : ∀ n, hasB (canon a) n = hasB a n := fun n => by rw [Bool.eq_iff_iff, hasB_iff, hasB_iff, (canon_is a).2]
  have hsb : ∀ n, hasB (canon b) n = hasB b n := fun n => by rw [Bool.eq_iff_iff, hasB_iff, hasB_iff, (canon_is b).2]
  have hR' : ∀ n, hasS R n ↔ f (hasB (canon a) n) (hasB (canon b) n) = true := fun n => by rw [hsa, hsb]; exact hR n
  clear hR hsa hsb
  generalize canon a = ca at *
  generalize canon b = cb at *
  have hP := compact_sorted (sortZ (placesS (ca ++ cb))) (sortZ_asc _)
  have hPm : ∀ p, p ∈ Lib.compact (sortI (placesS (ca ++ cb))) ↔ p ∈ placesS (ca ++ cb) := fun p => (hP.2 p).trans (mem_sortZ _ _)
  have hPp : (Lib.compact (sortI (placesS (ca ++ cb)))).Pairwise (· < ·) := hP.1
  have hPl : (Lib.compact (sortI (placesS (ca ++ cb)))).length ≤ 8000 := by
    refine Nat.le_trans (compact_len _) ?_
    rw [sortI_len, places_len]; simp; omega
  have hcan : canon R = canon (segs (fun p => f (hasB ca p) (hasB cb p)) (Lib.compact (sortI (placesS (ca ++ cb))))) := canon_same fun n => (hR' n).trans (sweep_has hff hPp hPm n).symm
  rw [hcan]
  clear hR' hcan hP hPm
  have c2 := concat2 ca cb (by omega) (by omega)
  have hCl : (ca ++ cb).length < 5000 := by simp; omega
  have cs := fun (l : List Int) (h : l.length < 1000000) b nm => sort_cc l b nm 3 h
  have cc := fun (l : List Int) (h : l.length < 1000000) b nm hb => compact_cc l b nm 3 hb h
  have hpl := places_len (ca ++ cb)
  have hsl := sortI_len (placesS (ca ++ cb))
  have cs1 := cs (placesS (ca ++ cb)) (by omega)
  have cc1 := cc (sortI (placesS (ca ++ cb))) (by omega)
  obtain ⟨P, hPe⟩ : ∃ P, Lib.compact (sortI (placesS (ca ++ cb))) = P := ⟨_, rfl⟩
  rw [hPe] at cc1 hPp hPl ⊢
  clear hPe cs cc hpl hsl
  refine fn_own Try.F41 (Nat.le_of_ble_eq_true rfl) ?_; unfold Try.ac41
  (first | (apply Awp.sreg; (case hn => (simp only [List.length_cons, List.length_nil, Nat.reduceAdd] <;> rfl))) | (apply Awp.reg; (case hn => (simp only [List.length_cons, List.length_nil, Nat.reduceAdd] <;> rfl)))); repeat' (first
    | (refine st_nil ?_)
    | (apply st_a; (case hc => rfl); (case he => (simp only [go_sem, *] <;> rfl)); (case hu => (simp only [updL_nil, updL_cons] <;> rfl)); (case hp => first | trivial | assumption | omega | (simp; done) | (simp; omega) | (simp [*]; done) | ((repeat' (refine And.intro ?_ ?_)) <;> first | trivial | assumption | omega | (simp; done) | (simp; omega) | (simp [*]; done))))
    | (apply st_m; (case hc => rfl); (case hg => (simp only [go_sem, *] <;> rfl)); (case he => (intro hQz; (try simp only [wantB_t, wantB_f, Bool.and_eq_true, Bool.not_eq_true', Bool.not_true, Bool.not_false, and_true, true_and] at hQz); simp only [go_sem, *] <;> rfl)); (case hp => (intro hQz; (try simp only [wantB_t, wantB_f, Bool.and_eq_true, Bool.not_eq_true', Bool.or_eq_false_iff, decide_eq_true_eq, decide_eq_false_iff_not, beq_iff_eq, beq_eq_false_iff_ne, bne_iff_ne, bne_eq_false_iff_eq, Int.not_lt, Int.not_le, Int.ofNat_lt, Int.ofNat_le] at hQz); first | trivial | assumption | omega | (simp; done) | (simp; omega) | (simp [*]; done) | ((repeat' (refine And.intro ?_ ?_)) <;> first | trivial | assumption | omega | (simp; done) | (simp; omega) | (simp [*]; done)))))
    | (apply st_gu; (case hv => (simp only [go_sem, *] <;> rfl)))
    | (apply st_g; (case hv => (simp only [go_sem, *] <;> rfl)); all_goals (intro hg; (try simp only [Bool.not_true, Bool.not_false, reduceCtorEq] at hg); (try have hg' := hg); (try simp only [decide_eq_true_eq, decide_eq_false_iff_not, Bool.and_eq_true, Bool.or_eq_false_iff, bne_iff_ne, bne_eq_false_iff_eq, beq_iff_eq, beq_eq_false_iff_ne, Int.not_lt, Int.not_le, Int.ofNat_lt, Int.ofNat_le, Int.natCast_inj] at hg'))))
  (first | (apply Awp.sdraw; (case hn => (simp only [List.length_cons, List.length_nil, Nat.reduceAdd] <;> rfl))) | (refine Awp.draw ?_)); repeat' (first
    | (refine Awp.draw ?_)
    | (apply sl_a; (case hc => rfl); (case he => (simp only [go_sem, *] <;> rfl)); (case hu => (simp only [updL_nil, updL_cons] <;> rfl)); (case hl => (simp only [List.map_cons, List.map_nil] <;> rfl)); (case hp => first | trivial | assumption | omega | (simp; done) | (simp; omega) | (simp [*]; done) | ((repeat' (refine And.intro ?_ ?_)) <;> first | trivial | assumption | omega | (simp; done) | (simp; omega) | (simp [*]; done))))
    | (apply sl_gu; (case hv => (simp only [go_sem, *] <;> rfl)))
    | (apply sl_gn; (case hv => (simp only [go_sem, *] <;> rfl)); (case hbw => rfl))
    | (apply sl_ga; (case hb => rfl); (case hv => (simp only [go_sem, *] <;> rfl)); (case he => (simp only [go_sem, *] <;> rfl)); (case hu => (simp only [updL_nil, updL_cons] <;> rfl)); (case hl => (simp only [List.map_cons, List.map_nil] <;> rfl)); (case hp => first | trivial | assumption | omega | (simp; done) | (simp; omega) | (simp [*]; done) | ((repeat' (refine And.intro ?_ ?_)) <;> first | trivial | assumption | omega | (simp; done) | (simp; omega) | (simp [*]; done))))
    | (apply sl_co; (case hc => (simp only [go_sem, *] <;> rfl)); (case hl => (simp only [go_sem, *] <;> rfl)); (case hn => (simp only [go_sem, *] <;> rfl)); (case hp => first | exact c0 | (have hXz := c0; simp only [go_sem, *] at hXz; exact hXz)))
    | (apply sl_co; (case hc => (simp only [go_sem, *] <;> rfl)); (case hl => (simp only [go_sem, *] <;> rfl)); (case hn => (simp only [go_sem, *] <;> rfl)); (case hp => first | exact c1 | (have hXz := c1; simp only [go_sem, *] at hXz; exact hXz)))
    | (apply sl_case; (case hv => (simp only [go_sem, *] <;> rfl)); all_goals (intro hg; (try simp only [Bool.not_true, Bool.not_false, reduceCtorEq] at hg); (try have hg' := hg); (try simp only [decide_eq_true_eq, decide_eq_false_iff_not, Bool.and_eq_true, Bool.or_eq_false_iff, bne_iff_ne, bne_eq_false_iff_eq, beq_iff_eq, beq_eq_false_iff_ne, Int.not_lt, Int.not_le, Int.ofNat_lt, Int.ofNat_le, Int.natCast_inj] at hg')))
    | (refine sl_nil (And.intro (by first | exact drawOk_of (by decide +kernel) | (simp only [List.map_cons, List.map_nil]; exact drawOk_of (by decide +kernel)) | decide) ?_)))
  refine Awp.ghost (nx' := 20) (S' := sw0 ca cb g) (by
    unfold sw0
    (apply Ghost.mk [] [5, 7]; (case hdead => rfl); (case hinj => rfl); (case hV => (simp only [go_sem, *]) <;> (repeat' (first | refine And.intro ?_ ?_ | exact .bp rfl (by decide)))); (case hB => (simp only [go_sem, *]) <;> (repeat' (first | refine And.intro ?_ ?_ | exact ⟨_, rfl, BView.fn0⟩ | exact ⟨_, rfl, BView.lowO (by first | rfl | (simp only [go_sem, *] <;> rfl)) (by first | rfl | omega | (simp; done) | (rw [wrap_i64] <;> (try simp only [Int.natCast_add]) <;> omega) | (simp [*]; done))⟩))))) ?_
  clear c0 c1
  obtain ⟨C, hC⟩ : ∃ C, ca ++ cb = C := ⟨_, rfl⟩
  rw [hC] at c2 hCl cs1 cc1
  clear hC
  unfold sw0
  repeat' (first
    | (apply Awp.sreg; (case hn => (simp only [List.length_cons, List.length_nil, Nat.reduceAdd] <;> rfl)))
    | (refine st_nil ?_)
    | (apply st_a; (case hc => rfl); (case he => (simp only [go_sem, *] <;> rfl)); (case hu => (simp only [updL_nil, updL_cons] <;> rfl)); (case hp => first | trivial | assumption | omega | (simp; done) | (simp; omega) | (simp [*]; done) | ((repeat' (refine And.intro ?_ ?_)) <;> first | trivial | assumption | omega | (simp; done) | (simp; omega) | (simp [*]; done))))
    | (apply st_cod; (case hc => (simp only [go_sem, *] <;> rfl)); (case hl => (simp only [go_sem, *] <;> rfl)); (case hn => (simp only [go_sem, *] <;> rfl)); (case hp => first | exact c2 | (have hXz := c2; simp only [go_sem, *] at hXz; exact hXz)); (case hd => first | exact sps_dry _ | exact ints_dry _ | (repeat' (first | exact Dry.v _ | exact Dry.any | exact Dry.nils | exact Dry.slE | refine Dry.agg ?_ | refine Dry.tup ?_ | (refine List.forall_mem_cons.2 (And.intro ?_ ?_)) | (intro cQ hQ; cases hQ; done)))); (case hm => first | decide | (simp; done)))
    | refine Awp.block ?_
    | refine Awp.seq ?_)
  clear c2
  refine Awp.loop (fun i : Nat => i ≤ C.length) 100 (fun i => sw1 ca cb g C (placesS (C.take i)) i) (fun i => C.length - i) 0 (by omega) ?_ ?_
  · refine Ghost.trans (Ghost.name 7 1 3 rfl (by decide)) ?_
    have e1 : placesS (C.take 0) = [] := rfl
    rw [e1]
    unfold sw1
    (apply Ghost.mk [(3, 27), (4, 24)] []; (case hdead => rfl); (case hinj => rfl); (case hV => (simp only [go_sem, *]) <;> (repeat' (first | refine And.intro ?_ ?_ | exact View.int (by first | rfl | omega | (simp; done) | (rw [wrap_i64] <;> (try simp only [Int.natCast_add]) <;> omega) | (simp [*]; done)) | exact .bp rfl (by decide) | exact .own rfl (by decide)))); (case hB => (simp only [go_sem, *]) <;> (repeat' (first | refine And.intro ?_ ?_ | exact ⟨_, rfl, BView.boxF rfl⟩ | exact ⟨_, rfl, .rowE (by first | rfl | omega | (simp; done) | (rw [wrap_i64] <;> (try simp only [Int.natCast_add]) <;> omega) | (simp [*]; done))⟩ | exact ⟨_, rfl, BView.fn0⟩))))
  · intro i hi
    have hCn := sps_len C
    by_cases hlt : i < C.length
    · have hlt' : (i : Int) < C.length := by omega
      have hat := sps_at C i hlt
      have hz : ((C.getD i zeroSp).cells).length = 2 := rfl
      have hst : Kept _ := places_step C i hlt
      have hLl : (placesS (C.take i)).length ≤ 2 * i := by rw [places_len]; simp; omega
      generalize placesS (C.take i) = L at *
      generalize C.getD i zeroSp = s at *
      have e2 := ints_two L s.a s.b
      have e3 := ints_oneL L
      have e4 := ints_len L
      clear cs1 cc1
      unfold sw1
      repeat' (first
    | (apply Awp.sreg; (case hn => (simp only [List.length_cons, List.length_nil, Nat.reduceAdd] <;> rfl)))
    | (refine st_nil ?_)
    | (apply st_a; (case hc => rfl); (case he => (simp only [go_sem, *] <;> rfl)); (case hu => (simp only [updL_nil, updL_cons] <;> rfl)); (case hp => first | trivial | assumption | omega | (simp; done) | (simp; omega) | (simp [*]; done) | ((repeat' (refine And.intro ?_ ?_)) <;> first | trivial | assumption | omega | (simp; done) | (simp; omega) | (simp [*]; done))))
    | (apply Awp.reg; (case hn => (simp only [List.length_cons, List.length_nil, Nat.reduceAdd] <;> rfl)))
    | (refine Awp.skip ?_; try simp only [go_sem, *])
    | refine Awp.block ?_
    | (apply Awp.cond; (case hc => (simp only [go_sem, *] <;> rfl)); all_goals (intro hg; (try simp only [Bool.not_true, Bool.not_false, reduceCtorEq] at hg)))
    | refine Awp.seq ?_)
      refine ⟨i + 1, by omega, by omega, ?_⟩
      rw [hst.out]
      (apply Ghost.mk [(3, 111)] []; (case hdead => rfl); (case hinj => rfl); (case hV => (simp only [go_sem, *]) <;> (repeat' (first | refine And.intro ?_ ?_ | exact View.int (by first | rfl | omega | (simp; done) | (rw [wrap_i64] <;> (try simp only [Int.natCast_add]) <;> omega) | (simp [*]; done)) | exact .bp rfl (by decide) | exact .own rfl (by decide)))); (case hB => (simp only [go_sem, *]) <;> (repeat' (first | refine And.intro ?_ ?_ | exact ⟨_, rfl, BView.boxF rfl⟩ | exact ⟨_, rfl, .rowE (by first | rfl | omega | (simp; done) | (rw [wrap_i64] <;> (try simp only [Int.natCast_add]) <;> omega) | (simp [*]; done))⟩ | exact ⟨_, rfl, BView.fn0⟩))))
    · have hlt' : ¬ (i : Int) < C.length := by omega
      have e1 : C.take i = C := List.take_of_length_le (by omega)
      rw [e1]
      clear e1 hlt
      unfold sw1
      repeat' (first
    | (apply Awp.sreg; (case hn => (simp only [List.length_cons, List.length_nil, Nat.reduceAdd] <;> rfl)))
    | (refine st_nil ?_)
    | (apply st_a; (case hc => rfl); (case he => (simp only [go_sem, *] <;> rfl)); (case hu => (simp only [updL_nil, updL_cons] <;> rfl)); (case hp => first | trivial | assumption | omega | (simp; done) | (simp; omega) | (simp [*]; done) | ((repeat' (refine And.intro ?_ ?_)) <;> first | trivial | assumption | omega | (simp; done) | (simp; omega) | (simp [*]; done))))
    | (apply st_cc; (case hc => (simp only [go_sem, *] <;> rfl)); (case hcc => exact (cs1 _ _)); (case hh => (first | (simp only [List.mem_singleton, forall_eq]; first | (simp only [go_sem, *] <;> rfl) | (simp only [go_sem, *]; simp [ints])) | (intro p hp; cases hp; done) | (intro p hp; simp only [List.mem_cons, List.not_mem_nil, or_false] at hp; rcases hp with rfl | rfl | rfl | rfl | rfl | rfl | rfl <;> (simp only [go_sem, *] <;> rfl)) | (intro p hp; simp only [List.mem_cons, List.not_mem_nil, or_false] at hp; rcases hp with rfl | rfl | rfl | rfl <;> (simp only [go_sem, *] <;> rfl)))); (case hu => (first | (simp; done) | decide)); (case hm => (first | decide | (simp; done))); (case hw => (simp only [updL_nil, updL_cons] <;> rfl)))
    | (apply st_cc; (case hc => (simp only [go_sem, *] <;> rfl)); (case hcc => exact (cc1 _ _ (by decide))); (case hh => (first | (simp only [List.mem_singleton, forall_eq]; first | (simp only [go_sem, *] <;> rfl) | (simp only [go_sem, *]; simp [ints])) | (intro p hp; cases hp; done) | (intro p hp; simp only [List.mem_cons, List.not_mem_nil, or_false] at hp; rcases hp with rfl | rfl | rfl | rfl | rfl | rfl | rfl <;> (simp only [go_sem, *] <;> rfl)) | (intro p hp; simp only [List.mem_cons, List.not_mem_nil, or_false] at hp; rcases hp with rfl | rfl | rfl | rfl <;> (simp only [go_sem, *] <;> rfl)))); (case hu => (first | (simp; done) | decide)); (case hm => (first | decide | (simp; done))); (case hw => (simp only [updL_nil, updL_cons] <;> rfl)))
    | (refine Awp.exit ?_; try simp only [go_sem, *])
    | refine Awp.block ?_
    | (apply Awp.cond; (case hc => (simp only [go_sem, *] <;> rfl)); all_goals (intro hg; (try simp only [Bool.not_true, Bool.not_false, reduceCtorEq] at hg)))
    | refine Awp.seq ?_)
      clear cs1 cc1
      refine Awp.loop (fun q : Nat × Nat × Nat => 1 ≤ q.1 ∧ (q.1 = 1 ∨ q.1 ≤ P.length) ∧ (q.1 < P.length → q.2.1 ≤ nx ca (P.getD (q.1 - 1) 0) ∧ q.2.2 ≤ nx cb (P.getD (q.1 - 1) 0))) 200
        (fun q => sw2 ca cb g (segs (fun p => f (hasB ca p) (hasB cb p)) (P.take q.1)) P q) (fun q => P.length - q.1) (1, 0, 0) ⟨Nat.le_refl _, .inl rfl, fun _ => ⟨Nat.zero_le _, Nat.zero_le _⟩⟩ ?_ ?_
      · refine Ghost.trans (Ghost.nameBox 106 2 29 rfl (by decide)) ?_
        have e1 : segs (fun p => f (hasB ca p) (hasB cb p)) (P.take 1) = [] := by
          cases P with
          | nil => rfl
          | cons p P => rfl
        unfold sw2
        dsimp only
        rw [e1]
        (apply Ghost.mk [(3, 106), (4, 107), (5, 108), (6, 114), (7, 104)] []; (case hdead => rfl); (case hinj => rfl); (case hV => (simp only [go_sem, *]) <;> (repeat' (first | refine And.intro ?_ ?_ | exact View.int (by first | rfl | omega | (simp; done) | (rw [wrap_i64] <;> (try simp only [Int.natCast_add]) <;> omega) | (simp [*]; done)) | exact .bp rfl (by decide) | exact .own rfl (by decide) | exact View.fn6 rfl rfl rfl rfl rfl rfl (by decide)))); (case hB => (simp only [go_sem, *]) <;> (repeat' (first | refine And.intro ?_ ?_ | exact ⟨_, rfl, BView.boxF rfl⟩ | exact ⟨_, rfl, BView.own1 rfl (by decide)⟩ | exact ⟨_, rfl, .rowE (by first | rfl | omega | (simp; done) | (rw [wrap_i64] <;> (try simp only [Int.natCast_add]) <;> omega) | (simp [*]; done))⟩ | exact ⟨_, rfl, BView.fn0⟩))))
      · rintro ⟨n, i, k⟩ ⟨hn1, hn2, hik⟩
        dsimp only at hn1 hn2 hik
        have hPn := ints_len P
        by_cases hlt : n < P.length
        · obtain ⟨hi', hk'⟩ := hik hlt
          obtain ⟨t1, t2⟩ := take_two P n hlt hn1
          have hat1 := ints_at P (n - 1) (by omega)
          have hat2 := ints_at P n hlt
          have hpq : P.getD (n - 1) 0 < P.getD n 0 := by
            have := List.pairwise_iff_getElem.1 hPp (n - 1) n (by omega) hlt (by omega)
            simpa [List.getD_eq_getElem?_getD, hlt, show n - 1 < P.length by omega] using this
          have hlt' : (n : Int) < P.length := by omega
          have hlt1 : ((n - 1 : Nat) : Int) < P.length := by omega
          have hw1 : IntKind.i64.wrap ((n : Int) - 1) = ((n - 1 : Nat) : Int) := by rw [wrap_i64 (by omega) (by omega)]; omega
          have hw2 : IntKind.i64.wrap ((n : Int) + 1) = ((n + 1 : Nat) : Int) := by rw [wrap_i64 (by omega) (by omega)]; simp
          have hO : (segs (fun p => f (hasB ca p) (hasB cb p)) (P.take n)).length < 100000 := by
            have := segs_len (fun p => f (hasB ca p) (hasB cb p)) (P.take n)
            simp at this; omega
          have hs := segs_snoc (fun p => f (hasB ca p) (hasB cb p)) (P.getD (n - 1) 0) (P.getD n 0) (P.take (n - 1))
          rw [← t1, ← t2] at hs
          have mn : ∀ c : List Sp, nx c (P.getD (n - 1) 0) ≤ nx c (P.getD n 0) := fun c => nx_mono (by omega)
          have ma := mn ca
          have mb := mn cb
          have hnx : (n + 1) - 1 = n := by omega
          generalize segs (fun p => f (hasB ca p) (hasB cb p)) (P.take n) = O at *
          obtain ⟨p, hp⟩ : ∃ p, P.getD (n - 1) 0 = p := ⟨_, rfl⟩
          obtain ⟨q, hq⟩ : ∃ q, P.getD n 0 = q := ⟨_, rfl⟩
          rw [hp] at hat1 hs ma mb hi' hk'
          have hq' : Kept (P.getD n 0 = q) := hq
          rw [hq] at hat2 hs ma mb
          clear hq hp mn hpq t1 t2 hik hPp
          cases hF : f (hasB ca p) (hasB cb p)
          · have hs' : Kept (segs (fun p => f (hasB ca p) (hasB cb p)) (P.take (n + 1)) = O) := by unfold Kept; rw [hs, hF]; simp
            have cst := fun nm h => step_no ca cb O g f hmem hca hcb (by omega) (by omega) hO p q i k nm hi' hk' h hF
            unfold stArgs stHl at cst
            generalize nx ca p = I at *
            generalize nx cb p = J at *
            clear hs hF hmem hca hcb
            unfold sw2
            dsimp only
            repeat' (first
    | (apply Awp.sreg; (case hn => (simp only [List.length_cons, List.length_nil, Nat.reduceAdd] <;> rfl)))
    | (refine st_nil ?_)
    | (apply st_a; (case hc => rfl); (case he => (simp only [go_sem, *] <;> rfl)); (case hu => (simp only [updL_nil, updL_cons] <;> rfl)); (case hp => first | trivial | assumption | omega | (simp; done) | (simp; omega) | (simp [*]; done) | ((repeat' (refine And.intro ?_ ?_)) <;> first | trivial | assumption | omega | (simp; done) | (simp; omega) | (simp [*]; done))))
    | (apply Awp.reg; (case hn => (simp only [List.length_cons, List.length_nil, Nat.reduceAdd] <;> rfl)))
    | (refine Awp.skip ?_; try simp only [go_sem, *])
    | refine Awp.block ?_
    | (apply Awp.cond; (case hc => (simp only [go_sem, *] <;> rfl)); all_goals (intro hg; (try simp only [Bool.not_true, Bool.not_false, reduceCtorEq] at hg)))
    | refine Awp.seq ?_
    | (refine Awp.draw ?_)
    | (apply sl_a; (case hc => rfl); (case he => (simp only [go_sem, *] <;> rfl)); (case hu => (simp only [updL_nil, updL_cons] <;> rfl)); (case hl => (simp only [List.map_cons, List.map_nil] <;> rfl)); (case hp => first | trivial | assumption | omega | (simp; done) | (simp; omega) | (simp [*]; done) | ((repeat' (refine And.intro ?_ ?_)) <;> first | trivial | assumption | omega | (simp; done) | (simp; omega) | (simp [*]; done))))
    | (apply sl_cc; (case hc => (simp only [go_sem, *] <;> rfl)); (case hcc => exact (cst _ (by omega))); (case hh => (first | (simp only [List.mem_singleton, forall_eq]; first | (simp only [go_sem, *] <;> rfl) | (simp only [go_sem, *]; simp [ints])) | (intro p hp; cases hp; done) | (intro p hp; simp only [List.mem_cons, List.not_mem_nil, or_false] at hp; rcases hp with rfl | rfl | rfl | rfl | rfl | rfl | rfl <;> (simp only [go_sem, *] <;> rfl)) | (intro p hp; simp only [List.mem_cons, List.not_mem_nil, or_false] at hp; rcases hp with rfl | rfl | rfl | rfl <;> (simp only [go_sem, *] <;> rfl)))); (case hu => (first | (simp; done) | decide)); (case hm => (first | decide | (simp; done))); (case hw => (simp only [updL_nil, updL_cons] <;> rfl)))
    | (refine sl_nil (And.intro (by first | exact drawOk_of (by decide +kernel) | (simp only [List.map_cons, List.map_nil]; exact drawOk_of (by decide +kernel)) | decide) ?_)))
            refine ⟨(n + 1, I, J), ⟨by dsimp only; omega, .inr (by dsimp only; omega), fun _ => ?_⟩, by dsimp only; omega, ?_⟩
            · dsimp only
              rw [hnx, hq'.out]
              exact ⟨ma, mb⟩
            dsimp only
            rw [hs'.out]
            (apply Ghost.mk [] []; (case hdead => rfl); (case hinj => rfl); (case hV => (simp only [go_sem, *]) <;> (repeat' (first | refine And.intro ?_ ?_ | exact .bp rfl (by decide) | exact .own rfl (by decide) | exact View.fn6 rfl rfl rfl rfl rfl rfl (by decide)))); (case hB => (simp only [go_sem, *]) <;> (repeat' (first | refine And.intro ?_ ?_ | exact ⟨_, rfl, BView.boxF rfl⟩ | exact ⟨_, rfl, BView.own1 rfl (by decide)⟩ | exact ⟨_, rfl, .rowE (by first | rfl | omega | (simp; done) | (rw [wrap_i64] <;> (try simp only [Int.natCast_add]) <;> omega) | (simp [*]; done))⟩ | exact ⟨_, rfl, BView.fn0⟩))))
          · have hs' : Kept (segs (fun p => f (hasB ca p) (hasB cb p)) (P.take (n + 1)) = O ++ [⟨p, q⟩]) := by unfold Kept; rw [hs, hF]; simp
            have cst := fun nm h => step_yes ca cb O g f hmem hca hcb (by omega) (by omega) hO p q i k nm hi' hk' h hF
            unfold stArgs stHl at cst
            generalize nx ca p = I at *
            generalize nx cb p = J at *
            clear hs hF hmem hca hcb
            unfold sw2
            dsimp only
            repeat' (first
    | (apply Awp.sreg; (case hn => (simp only [List.length_cons, List.length_nil, Nat.reduceAdd] <;> rfl)))
    | (refine st_nil ?_)
    | (apply st_a; (case hc => rfl); (case he => (simp only [go_sem, *] <;> rfl)); (case hu => (simp only [updL_nil, updL_cons] <;> rfl)); (case hp => first | trivial | assumption | omega | (simp; done) | (simp; omega) | (simp [*]; done) | ((repeat' (refine And.intro ?_ ?_)) <;> first | trivial | assumption | omega | (simp; done) | (simp; omega) | (simp [*]; done))))
    | (apply Awp.reg; (case hn => (simp only [List.length_cons, List.length_nil, Nat.reduceAdd] <;> rfl)))
    | (refine Awp.skip ?_; try simp only [go_sem, *])
    | refine Awp.block ?_
    | (apply Awp.cond; (case hc => (simp only [go_sem, *] <;> rfl)); all_goals (intro hg; (try simp only [Bool.not_true, Bool.not_false, reduceCtorEq] at hg)))
    | refine Awp.seq ?_
    | (refine Awp.draw ?_)
    | (apply sl_a; (case hc => rfl); (case he => (simp only [go_sem, *] <;> rfl)); (case hu => (simp only [updL_nil, updL_cons] <;> rfl)); (case hl => (simp only [List.map_cons, List.map_nil] <;> rfl)); (case hp => first | trivial | assumption | omega | (simp; done) | (simp; omega) | (simp [*]; done) | ((repeat' (refine And.intro ?_ ?_)) <;> first | trivial | assumption | omega | (simp; done) | (simp; omega) | (simp [*]; done))))
    | (apply sl_cc; (case hc => (simp only [go_sem, *] <;> rfl)); (case hcc => exact (cst _ (by omega))); (case hh => (first | (simp only [List.mem_singleton, forall_eq]; first | (simp only [go_sem, *] <;> rfl) | (simp only [go_sem, *]; simp [ints])) | (intro p hp; cases hp; done) | (intro p hp; simp only [List.mem_cons, List.not_mem_nil, or_false] at hp; rcases hp with rfl | rfl | rfl | rfl | rfl | rfl | rfl <;> (simp only [go_sem, *] <;> rfl)) | (intro p hp; simp only [List.mem_cons, List.not_mem_nil, or_false] at hp; rcases hp with rfl | rfl | rfl | rfl <;> (simp only [go_sem, *] <;> rfl)))); (case hu => (first | (simp; done) | decide)); (case hm => (first | decide | (simp; done))); (case hw => (simp only [updL_nil, updL_cons] <;> rfl)))
    | (refine sl_nil (And.intro (by first | exact drawOk_of (by decide +kernel) | (simp only [List.map_cons, List.map_nil]; exact drawOk_of (by decide +kernel)) | decide) ?_)))
            refine ⟨(n + 1, I, J), ⟨by dsimp only; omega, .inr (by dsimp only; omega), fun _ => ?_⟩, by dsimp only; omega, ?_⟩
            · dsimp only
              rw [hnx, hq'.out]
              exact ⟨ma, mb⟩
            dsimp only
            rw [hs'.out]
            (apply Ghost.mk [(6, 214)] []; (case hdead => rfl); (case hinj => rfl); (case hV => (simp only [go_sem, *]) <;> (repeat' (first | refine And.intro ?_ ?_ | exact .bp rfl (by decide) | exact .own rfl (by decide) | exact View.fn6 rfl rfl rfl rfl rfl rfl (by decide)))); (case hB => (simp only [go_sem, *]) <;> (repeat' (first | refine And.intro ?_ ?_ | exact ⟨_, rfl, BView.boxF rfl⟩ | exact ⟨_, rfl, BView.own1 rfl (by decide)⟩ | exact ⟨_, rfl, .rowE (by first | rfl | omega | (simp; done) | (rw [wrap_i64] <;> (try simp only [Int.natCast_add]) <;> omega) | (simp [*]; done))⟩ | exact ⟨_, rfl, BView.fn0⟩))))
        · have hlt' : ¬ (n : Int) < P.length := by omega
          have e1 : P.take n = P := List.take_of_length_le (by omega)
          rw [e1]
          have hO := segs_len (fun p => f (hasB ca p) (hasB cb p)) P
          have cn := normal_ok (segs (fun p => f (hasB ca p) (hasB cb p)) P) (by omega)
          generalize segs (fun p => f (hasB ca p) (hasB cb p)) P = O at *
          clear hmem hca hcb hik hPp e1
          unfold sw2
          dsimp only
          repeat' (first
    | (apply Awp.sreg; (case hn => (simp only [List.length_cons, List.length_nil, Nat.reduceAdd] <;> rfl)))
    | (refine st_nil ?_)
    | (apply st_a; (case hc => rfl); (case he => (simp only [go_sem, *] <;> rfl)); (case hu => (simp only [updL_nil, updL_cons] <;> rfl)); (case hp => first | trivial | assumption | omega | (simp; done) | (simp; omega) | (simp [*]; done) | ((repeat' (refine And.intro ?_ ?_)) <;> first | trivial | assumption | omega | (simp; done) | (simp; omega) | (simp [*]; done))))
    | (apply st_cod; (case hc => (simp only [go_sem, *] <;> rfl)); (case hl => (simp only [go_sem, *] <;> rfl)); (case hn => (simp only [go_sem, *] <;> rfl)); (case hp => first | exact cn | (have hXz := cn; simp only [go_sem, *] at hXz; exact hXz)); (case hd => first | exact sps_dry _ | exact ints_dry _ | (repeat' (first | exact Dry.v _ | exact Dry.any | exact Dry.nils | exact Dry.slE | refine Dry.agg ?_ | refine Dry.tup ?_ | (refine List.forall_mem_cons.2 (And.intro ?_ ?_)) | (intro cQ hQ; cases hQ; done)))); (case hm => first | decide | (simp; done)))
    | (refine Awp.ret ?_; try simp only [go_sem, *])
    | (refine Awp.exit ?_; try simp only [go_sem, *])
    | (apply Awp.cond; (case hc => (simp only [go_sem, *] <;> rfl)); all_goals (intro hg; (try simp only [Bool.not_true, Bool.not_false, reduceCtorEq] at hg)))
    | refine Awp.seq ?_)
          exact ⟨_, rfl, rfl⟩
end Go.Proofs
end
section
set_option linter.unusedVariables false
set_option linter.unusedSimpArgs false
namespace Go.Proofs
open Go Go.Ab
set_option maxHeartbeats 4000000
set_option maxRecDepth 100000
set_option linter.unusedSimpArgs false
set_option linter.unusedVariables false
attribute [local irreducible] Awp aops aopsL Go.Ab.Pure PureOwn
theorem ginter_ok (a b : List Sp) (ha : a.length < 2000) (hb : b.length < 2000) : PureOwn Try.prog 25 [.sl (sps a), .sl (sps b)] (sps (canon (interL a b))) 2 29 := by
  have c0 := sweep_ok 42 (fun x y => x && y) andC_ok rfl a b (interL a b) ha hb (fun n => by rw [inter_has, Bool.and_eq_true, hasB_iff, hasB_iff])
  refine fn_own Try.F25 (Nat.le_of_ble_eq_true rfl) ?_; unfold Try.ac25
  repeat' (first
    | (apply Awp.sreg; (case hn => (simp only [List.length_cons, List.length_nil, Nat.reduceAdd] <;> rfl)))
    | (refine st_nil ?_)
    | (apply st_a; (case hc => rfl); (case he => (simp only [go_sem, *] <;> rfl)); (case hu => (simp only [updL_nil, updL_cons] <;> rfl)); (case hp => first | trivial | assumption | omega | (simp; done) | (simp; omega) | (simp [*]; done) | ((repeat' (refine And.intro ?_ ?_)) <;> first | trivial | assumption | omega | (simp; done) | (simp; omega) | (simp [*]; done))))
    | (apply st_co; (case hc => (simp only [go_sem, *] <;> rfl)); (case hl => (simp only [go_sem, *] <;> rfl)); (case hn => (simp only [go_sem, *] <;> rfl)); (case hp => first | exact c0 | (have hXz := c0; simp only [go_sem, *] at hXz; exact hXz)))
    | (refine Awp.ret ?_; try simp only [go_sem, *]))
  all_goals exact ⟨_, rfl, rfl⟩
theorem gminus_ok (a b : List Sp) (ha : a.length < 2000) (hb : b.length < 2000) : PureOwn Try.prog 29 [.sl (sps a), .sl (sps b)] (sps (minusL a b)) 2 29 := by
  have c0 := sweep_ok 44 (fun x y => x && !y) diffC_ok rfl a b (minusL a b) ha hb (fun n => by
    rw [(minus_is a b).2 n, Bool.and_eq_true, hasB_iff, Bool.not_eq_true', ← hasB_iff b, Bool.not_eq_true])
  have e : canon (minusL a b) = minusL a b := (canon_eq (minus_is a b).1 fun n => Iff.rfl).symm
  rw [e] at c0
  refine fn_own Try.F29 (Nat.le_of_ble_eq_true rfl) ?_; unfold Try.ac29
  repeat' (first
    | (apply Awp.sreg; (case hn => (simp only [List.length_cons, List.length_nil, Nat.reduceAdd] <;> rfl)))
    | (refine st_nil ?_)
    | (apply st_a; (case hc => rfl); (case he => (simp only [go_sem, *] <;> rfl)); (case hu => (simp only [updL_nil, updL_cons] <;> rfl)); (case hp => first | trivial | assumption | omega | (simp; done) | (simp; omega) | (simp [*]; done) | ((repeat' (refine And.intro ?_ ?_)) <;> first | trivial | assumption | omega | (simp; done) | (simp; omega) | (simp [*]; done))))
    | (apply st_co; (case hc => (simp only [go_sem, *] <;> rfl)); (case hl => (simp only [go_sem, *] <;> rfl)); (case hn => (simp only [go_sem, *] <;> rfl)); (case hp => first | exact c0 | (have hXz := c0; simp only [go_sem, *] at hXz; exact hXz)))
    | (refine Awp.ret ?_; try simp only [go_sem, *]))
  all_goals exact ⟨_, rfl, rfl⟩
theorem ggaps_ok (l : List Sp) (w : Sp) (hl : l.length < 2000) : PureOwn Try.prog 20 [.sl (sps l), w.av] (sps (minusL [w] l)) 2 29 := by
  have c0 := gminus_ok [w] l (by simp) hl
  have h1 := sps_one1 w
  refine fn_own Try.F20 (Nat.le_of_ble_eq_true rfl) ?_; unfold Try.ac20
  repeat' (first
    | (apply Awp.sreg; (case hn => (simp only [List.length_cons, List.length_nil, Nat.reduceAdd] <;> rfl)))
    | (refine st_nil ?_)
    | (apply st_a; (case hc => rfl); (case he => (simp only [go_sem, *] <;> rfl)); (case hu => (simp only [updL_nil, updL_cons] <;> rfl)); (case hp => first | trivial | assumption | omega | (simp; done) | (simp; omega) | (simp [*]; done) | ((repeat' (refine And.intro ?_ ?_)) <;> first | trivial | assumption | omega | (simp; done) | (simp; omega) | (simp [*]; done))))
    | (apply st_cod; (case hc => (simp only [go_sem, *] <;> rfl)); (case hl => (simp only [go_sem, *] <;> rfl)); (case hn => (simp only [go_sem, *] <;> rfl)); (case hp => first | exact c0 | (have hXz := c0; simp only [go_sem, *] at hXz; exact hXz)); (case hd => first | exact sps_dry _ | exact ints_dry _ | (repeat' (first | exact Dry.v _ | exact Dry.any | exact Dry.nils | exact Dry.slE | refine Dry.agg ?_ | refine Dry.tup ?_ | (refine List.forall_mem_cons.2 (And.intro ?_ ?_)) | (intro cQ hQ; cases hQ; done)))); (case hm => first | decide | (simp; done)))
    | (refine Awp.ret ?_; try simp only [go_sem, *]))
  all_goals exact ⟨_, rfl, rfl⟩
def iv (n : Int) : AV := .v (.int .i64 n)
attribute [go_sem] iv
theorem exNormal : canon [⟨5, 9⟩, ⟨1, 3⟩, ⟨3, 4⟩, ⟨7, 7⟩] = [⟨1, 4⟩, ⟨5, 9⟩] := by kernel_rfl
theorem exGaps : minusL [⟨0, 10⟩] [⟨2, 4⟩, ⟨8, 12⟩] = [⟨0, 2⟩, ⟨4, 8⟩] := by kernel_rfl
theorem exMinus : minusL [⟨0, 10⟩] [⟨2, 3⟩, ⟨9, 20⟩] = [⟨0, 2⟩, ⟨3, 9⟩] := by kernel_rfl
theorem exFit3 : fitE [⟨2, 4⟩, ⟨8, 12⟩] 0 3 = (4, true) := by kernel_rfl
theorem exFit5 : fitE [⟨2, 4⟩, ⟨8, 12⟩] 0 5 = (12, true) := by kernel_rfl
theorem exTotal : totalL [⟨1, 4⟩, ⟨2, 6⟩] = 5 := by kernel_rfl
theorem exHas2 : hasB [⟨2, 4⟩, ⟨8, 12⟩] 2 = true := by kernel_rfl
theorem exHas4 : hasB [⟨2, 4⟩, ⟨8, 12⟩] 4 = false := by kernel_rfl
theorem inR_two {a b c d : Int} (h : -9223372036854775808 ≤ a ∧ b ≤ 9223372036854775807 ∧ -9223372036854775808 ≤ c ∧ d ≤ 9223372036854775807) : InR [⟨a, b⟩, ⟨c, d⟩] := by
  intro s hs
  simp only [List.mem_cons, List.not_mem_nil, or_false] at hs
  rcases hs with rfl | rfl
  · exact ⟨h.1, h.2.1⟩
  · exact ⟨h.2.2.1, h.2.2.2⟩
theorem awake_ok : Pure Try.prog 12 [] (.v (.bool true)) := by
  have c1 : Pure Try.prog 22 [.sl [[.v (.int .i64 2), .v (.int .i64 4)], [.v (.int .i64 8), .v (.int .i64 12)]], .v (.int .i64 0), .v (.int .i64 3)] (.tup [.v (.int .i64 4), .v (.bool true)]) := by
    have h := fit_ok [⟨2, 4⟩, ⟨8, 12⟩] 0 3 (inR_two (by omega)) (by simp) (by omega) (by omega)
    rw [exFit3] at h; exact h
  have c2 : Pure Try.prog 22 [.sl [[.v (.int .i64 2), .v (.int .i64 4)], [.v (.int .i64 8), .v (.int .i64 12)]], .v (.int .i64 0), .v (.int .i64 5)] (.tup [.v (.int .i64 12), .v (.bool true)]) := by
    have h := fit_ok [⟨2, 4⟩, ⟨8, 12⟩] 0 5 (inR_two (by omega)) (by simp) (by omega) (by omega)
    rw [exFit5] at h; exact h
  have c3 : PureOwn Try.prog 14 [.sl [[.v (.int .i64 5), .v (.int .i64 9)], [.v (.int .i64 1), .v (.int .i64 3)], [.v (.int .i64 3), .v (.int .i64 4)], [.v (.int .i64 7), .v (.int .i64 7)]]] [[.v (.int .i64 1), .v (.int .i64 4)], [.v (.int .i64 5), .v (.int .i64 9)]] 2 29 := by
    have h := normal_ok [⟨5, 9⟩, ⟨1, 3⟩, ⟨3, 4⟩, ⟨7, 7⟩] (by simp)
    rw [exNormal] at h; exact h
  have c4 : PureOwn Try.prog 20 [.sl [[.v (.int .i64 2), .v (.int .i64 4)], [.v (.int .i64 8), .v (.int .i64 12)]], .agg [.v (.int .i64 0), .v (.int .i64 10)]] [[.v (.int .i64 0), .v (.int .i64 2)], [.v (.int .i64 4), .v (.int .i64 8)]] 2 29 := by
    have h := ggaps_ok [⟨2, 4⟩, ⟨8, 12⟩] ⟨0, 10⟩ (by simp)
    rw [exGaps] at h; exact h
  have c5 : PureOwn Try.prog 29 [.sl [[.v (.int .i64 0), .v (.int .i64 10)]], .sl [[.v (.int .i64 2), .v (.int .i64 3)], [.v (.int .i64 9), .v (.int .i64 20)]]] [[.v (.int .i64 0), .v (.int .i64 2)], [.v (.int .i64 3), .v (.int .i64 9)]] 2 29 := by
    have h := gminus_ok [⟨0, 10⟩] [⟨2, 3⟩, ⟨9, 20⟩] (by simp) (by simp)
    rw [exMinus] at h; exact h
  have d1 : Pure Try.prog 13 [.sl [[.v (.int .i64 1), .v (.int .i64 4)], [.v (.int .i64 5), .v (.int .i64 9)]], .sl [[.v (.int .i64 1), .v (.int .i64 4)], [.v (.int .i64 5), .v (.int .i64 9)]]] (.v (.bool true)) := same_ok [⟨1, 4⟩, ⟨5, 9⟩] (by simp)
  have d2 : Pure Try.prog 13 [.sl [[.v (.int .i64 0), .v (.int .i64 2)], [.v (.int .i64 4), .v (.int .i64 8)]], .sl [[.v (.int .i64 0), .v (.int .i64 2)], [.v (.int .i64 4), .v (.int .i64 8)]]] (.v (.bool true)) := same_ok [⟨0, 2⟩, ⟨4, 8⟩] (by simp)
  have d3 : Pure Try.prog 13 [.sl [[.v (.int .i64 0), .v (.int .i64 2)], [.v (.int .i64 3), .v (.int .i64 9)]], .sl [[.v (.int .i64 0), .v (.int .i64 2)], [.v (.int .i64 3), .v (.int .i64 9)]]] (.v (.bool true)) := same_ok [⟨0, 2⟩, ⟨3, 9⟩] (by simp)
  have f1 : Pure Try.prog 16 [.sl [[.v (.int .i64 1), .v (.int .i64 4)], [.v (.int .i64 2), .v (.int .i64 6)]]] (.v (.int .i64 5)) := by
    have h := total_ok [⟨1, 4⟩, ⟨2, 6⟩] (inR_two (by omega)) (by simp)
    rw [exTotal] at h; exact h
  have g1 : Pure Try.prog 18 [.sl [[.v (.int .i64 2), .v (.int .i64 4)], [.v (.int .i64 8), .v (.int .i64 12)]], .v (.int .i64 2)] (.v (.bool true)) := by
    have h := has_ok [⟨2, 4⟩, ⟨8, 12⟩] 2 (by simp)
    rw [exHas2] at h; exact h
  have g2 : Pure Try.prog 18 [.sl [[.v (.int .i64 2), .v (.int .i64 4)], [.v (.int .i64 8), .v (.int .i64 12)]], .v (.int .i64 4)] (.v (.bool false)) := by
    have h := has_ok [⟨2, 4⟩, ⟨8, 12⟩] 4 (by simp)
    rw [exHas4] at h; exact h
  refine fn_pure Try.F12 (Nat.le_of_ble_eq_true rfl) ?_; unfold Try.ac12
  repeat' (first
    | (apply Awp.sreg; (case hn => (simp only [List.length_cons, List.length_nil, Nat.reduceAdd] <;> rfl)))
    | (refine st_nil ?_)
    | (apply st_a; (case hc => rfl); (case he => (simp only [go_sem, *] <;> rfl)); (case hu => (simp only [updL_nil, updL_cons] <;> rfl)); (case hp => first | trivial | assumption | omega | (simp; done) | (simp; omega) | (simp [*]; done) | ((repeat' (refine And.intro ?_ ?_)) <;> first | trivial | assumption | omega | (simp; done) | (simp; omega) | (simp [*]; done))))
    | (apply st_m; (case hc => rfl); (case hg => (simp only [go_sem, *] <;> rfl)); (case he => (intro hQz; (try simp only [wantB_t, wantB_f, Bool.and_eq_true, Bool.not_eq_true', Bool.not_true, Bool.not_false, and_true, true_and] at hQz); simp only [go_sem, *] <;> rfl)); (case hp => (intro hQz; (try simp only [wantB_t, wantB_f, Bool.and_eq_true, Bool.not_eq_true', Bool.or_eq_false_iff, decide_eq_true_eq, decide_eq_false_iff_not, beq_iff_eq, beq_eq_false_iff_ne, bne_iff_ne, bne_eq_false_iff_eq, Int.not_lt, Int.not_le, Int.ofNat_lt, Int.ofNat_le] at hQz); first | trivial | assumption | omega | (simp; done) | (simp; omega) | (simp [*]; done) | ((repeat' (refine And.intro ?_ ?_)) <;> first | trivial | assumption | omega | (simp; done) | (simp; omega) | (simp [*]; done)))))
    | (apply st_cd; (case hc => (simp only [go_sem, *] <;> rfl)); (case hl => (simp only [go_sem, *] <;> rfl)); (case hn => (simp only [go_sem, *] <;> rfl)); (case hp => first | exact c1 | (have hXz := c1; simp only [go_sem, *] at hXz; exact hXz)); (case hd => first | exact .v _ | exact .any | exact .nils | (repeat' (first | exact Dry.v _ | exact Dry.any | exact Dry.nils | exact Dry.slE | refine Dry.agg ?_ | refine Dry.tup ?_ | (refine List.forall_mem_cons.2 (And.intro ?_ ?_)) | (intro cQ hQ; cases hQ; done)))); (case hm => first | decide | (simp; done)))
    | (apply st_cd; (case hc => (simp only [go_sem, *] <;> rfl)); (case hl => (simp only [go_sem, *] <;> rfl)); (case hn => (simp only [go_sem, *] <;> rfl)); (case hp => first | exact c2 | (have hXz := c2; simp only [go_sem, *] at hXz; exact hXz)); (case hd => first | exact .v _ | exact .any | exact .nils | (repeat' (first | exact Dry.v _ | exact Dry.any | exact Dry.nils | exact Dry.slE | refine Dry.agg ?_ | refine Dry.tup ?_ | (refine List.forall_mem_cons.2 (And.intro ?_ ?_)) | (intro cQ hQ; cases hQ; done)))); (case hm => first | decide | (simp; done)))
    | (apply st_cod; (case hc => (simp only [go_sem, *] <;> rfl)); (case hl => (simp only [go_sem, *] <;> rfl)); (case hn => (simp only [go_sem, *] <;> rfl)); (case hp => first | exact c3 | (have hXz := c3; simp only [go_sem, *] at hXz; exact hXz)); (case hd => first | exact sps_dry _ | exact ints_dry _ | (repeat' (first | exact Dry.v _ | exact Dry.any | exact Dry.nils | exact Dry.slE | refine Dry.agg ?_ | refine Dry.tup ?_ | (refine List.forall_mem_cons.2 (And.intro ?_ ?_)) | (intro cQ hQ; cases hQ; done)))); (case hm => first | decide | (simp; done)))
    | (apply st_cod; (case hc => (simp only [go_sem, *] <;> rfl)); (case hl => (simp only [go_sem, *] <;> rfl)); (case hn => (simp only [go_sem, *] <;> rfl)); (case hp => first | exact c4 | (have hXz := c4; simp only [go_sem, *] at hXz; exact hXz)); (case hd => first | exact sps_dry _ | exact ints_dry _ | (repeat' (first | exact Dry.v _ | exact Dry.any | exact Dry.nils | exact Dry.slE | refine Dry.agg ?_ | refine Dry.tup ?_ | (refine List.forall_mem_cons.2 (And.intro ?_ ?_)) | (intro cQ hQ; cases hQ; done)))); (case hm => first | decide | (simp; done)))
    | (apply st_cod; (case hc => (simp only [go_sem, *] <;> rfl)); (case hl => (simp only [go_sem, *] <;> rfl)); (case hn => (simp only [go_sem, *] <;> rfl)); (case hp => first | exact c5 | (have hXz := c5; simp only [go_sem, *] at hXz; exact hXz)); (case hd => first | exact sps_dry _ | exact ints_dry _ | (repeat' (first | exact Dry.v _ | exact Dry.any | exact Dry.nils | exact Dry.slE | refine Dry.agg ?_ | refine Dry.tup ?_ | (refine List.forall_mem_cons.2 (And.intro ?_ ?_)) | (intro cQ hQ; cases hQ; done)))); (case hm => first | decide | (simp; done)))
    | (apply st_cd; (case hc => (simp only [go_sem, *] <;> rfl)); (case hl => (simp only [go_sem, *] <;> rfl)); (case hn => (simp only [go_sem, *] <;> rfl)); (case hp => first | exact d1 | (have hXz := d1; simp only [go_sem, *] at hXz; exact hXz)); (case hd => first | exact .v _ | exact .any | exact .nils | (repeat' (first | exact Dry.v _ | exact Dry.any | exact Dry.nils | exact Dry.slE | refine Dry.agg ?_ | refine Dry.tup ?_ | (refine List.forall_mem_cons.2 (And.intro ?_ ?_)) | (intro cQ hQ; cases hQ; done)))); (case hm => first | decide | (simp; done)))
    | (apply st_cd; (case hc => (simp only [go_sem, *] <;> rfl)); (case hl => (simp only [go_sem, *] <;> rfl)); (case hn => (simp only [go_sem, *] <;> rfl)); (case hp => first | exact d2 | (have hXz := d2; simp only [go_sem, *] at hXz; exact hXz)); (case hd => first | exact .v _ | exact .any | exact .nils | (repeat' (first | exact Dry.v _ | exact Dry.any | exact Dry.nils | exact Dry.slE | refine Dry.agg ?_ | refine Dry.tup ?_ | (refine List.forall_mem_cons.2 (And.intro ?_ ?_)) | (intro cQ hQ; cases hQ; done)))); (case hm => first | decide | (simp; done)))
    | (apply st_cd; (case hc => (simp only [go_sem, *] <;> rfl)); (case hl => (simp only [go_sem, *] <;> rfl)); (case hn => (simp only [go_sem, *] <;> rfl)); (case hp => first | exact d3 | (have hXz := d3; simp only [go_sem, *] at hXz; exact hXz)); (case hd => first | exact .v _ | exact .any | exact .nils | (repeat' (first | exact Dry.v _ | exact Dry.any | exact Dry.nils | exact Dry.slE | refine Dry.agg ?_ | refine Dry.tup ?_ | (refine List.forall_mem_cons.2 (And.intro ?_ ?_)) | (intro cQ hQ; cases hQ; done)))); (case hm => first | decide | (simp; done)))
    | (apply st_cd; (case hc => (simp only [go_sem, *] <;> rfl)); (case hl => (simp only [go_sem, *] <;> rfl)); (case hn => (simp only [go_sem, *] <;> rfl)); (case hp => first | exact f1 | (have hXz := f1; simp only [go_sem, *] at hXz; exact hXz)); (case hd => first | exact .v _ | exact .any | exact .nils | (repeat' (first | exact Dry.v _ | exact Dry.any | exact Dry.nils | exact Dry.slE | refine Dry.agg ?_ | refine Dry.tup ?_ | (refine List.forall_mem_cons.2 (And.intro ?_ ?_)) | (intro cQ hQ; cases hQ; done)))); (case hm => first | decide | (simp; done)))
    | (apply st_cd; (case hc => (simp only [go_sem, *] <;> rfl)); (case hl => (simp only [go_sem, *] <;> rfl)); (case hn => (simp only [go_sem, *] <;> rfl)); (case hp => first | exact g1 | (have hXz := g1; simp only [go_sem, *] at hXz; exact hXz)); (case hd => first | exact .v _ | exact .any | exact .nils | (repeat' (first | exact Dry.v _ | exact Dry.any | exact Dry.nils | exact Dry.slE | refine Dry.agg ?_ | refine Dry.tup ?_ | (refine List.forall_mem_cons.2 (And.intro ?_ ?_)) | (intro cQ hQ; cases hQ; done)))); (case hm => first | decide | (simp; done)))
    | (apply st_cd; (case hc => (simp only [go_sem, *] <;> rfl)); (case hl => (simp only [go_sem, *] <;> rfl)); (case hn => (simp only [go_sem, *] <;> rfl)); (case hp => first | exact g2 | (have hXz := g2; simp only [go_sem, *] at hXz; exact hXz)); (case hd => first | exact .v _ | exact .any | exact .nils | (repeat' (first | exact Dry.v _ | exact Dry.any | exact Dry.nils | exact Dry.slE | refine Dry.agg ?_ | refine Dry.tup ?_ | (refine List.forall_mem_cons.2 (And.intro ?_ ?_)) | (intro cQ hQ; cases hQ; done)))); (case hm => first | decide | (simp; done)))
    | (apply st_g; (case hv => (simp only [go_sem, *] <;> rfl)); all_goals (intro hg; (try simp only [Bool.not_true, Bool.not_false, reduceCtorEq] at hg)))
    | (refine Awp.ret ?_; try simp only [go_sem, *]))
  all_goals repeat' (first | exact Lower.bool (by first | rfl | (simp only [true_and, Bool.true_and, Bool.false_and, Bool.and_true, Bool.and_false, Bool.true_or, Bool.false_or, reduceIte, Bool.false_eq_true, *]; done) | (simp only [true_and, reduceIte, Bool.false_eq_true, *] <;> rfl) | (simp [true_and]; done) | (simp_all [true_and]; done) | omega))
end Go.Proofs
end
