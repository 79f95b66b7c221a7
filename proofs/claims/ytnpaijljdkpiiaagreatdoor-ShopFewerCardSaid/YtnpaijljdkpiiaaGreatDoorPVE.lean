import Derived.Test.YtnpaijljdkpiiaaGreatDoorPVD
set_option linter.unusedVariables false
set_option linter.unusedSimpArgs false
namespace Go.Proofs
open Go Go.Ab
set_option maxHeartbeats 4000000
set_option maxRecDepth 100000
attribute [local irreducible] Awp aops aopsL Go.Ab.Pure PureOwn
def nearB (x y : Sty) : Bool := (y.bay.toList == x.bay.toList) && decide (x.a < y.b) && decide (y.a < x.b)
def nearL (l : List Sty) (x : Sty) : List Sty := l.filter (nearB x)
def lowL (l : List Sty) (x : Sty) : List Int := 0 :: (nearL l x).map fun y => IntKind.i64.wrap (y.y + y.wid)
def leftL (l : List Sty) (x : Sty) : List Int := 0 :: (nearL l x).map fun y => IntKind.i64.wrap (y.x + y.len)
theorem nearL_step (l : List Sty) (x : Sty) (i : Nat) (h : i < l.length) : nearL (l.take (i + 1)) x = nearL (l.take i) x ++ (if nearB x (l.getD i zeroSty) = true then [l.getD i zeroSty] else []) := by
  rw [take_snoc l zeroSty i h]
  unfold nearL
  rw [List.filter_append]
  congr 1
  by_cases hp : nearB x (l.getD i zeroSty) = true
  · rw [if_pos hp, List.filter_cons_of_pos hp]; rfl
  · rw [if_neg hp, List.filter_cons_of_neg hp]; rfl
theorem nearL_len (l : List Sty) (x : Sty) : (nearL l x).length ≤ l.length := List.length_filter_le _ _
def spS (bs : List By) (l : List Sty) (x : Sty) (near : List Sty) (low left : List Int) (i : Nat) : AState :=
  mkS [(3, .bp 0 0), (5, .bp 1 0), (6, .bp 6 0), (8, .bp 2 0), (9, .own 4), (10, .own 5), (20, .sl (stys l)), (21, .v (.int .i64 l.length)), (22, .v (.int .i64 i))]
    [(0, .box [.sl (bys bs)]), (1, .box x.cells), (2, .box [.own 3]), (3, .row (stys near) 8 48), (4, .row (ints low) 1 3), (5, .row (ints left) 1 3), (6, .box [.v (.string ⟨⟨[]⟩⟩), .v (.string ⟨⟨[]⟩⟩), .v (.int .i64 0), .v (.int .i64 0), .v (.int .i64 0), .v (.int .i64 0), .v (.int .i64 0), .v (.int .i64 0)])]
def placeB (bs : List By) (l : List Sty) (x : Sty) (X Y : Int) : Bool := stayE bs (nearL l x) (x.at_ X Y) == 0
def spotE (bs : List By) (l : List Sty) (x : Sty) : Sty × Bool := match scanE (placeB bs l x) (Lib.compact (sortI (lowL l x))) (Lib.compact (sortI (leftL l x))) with
  | some (X, Y) => (x.at_ X Y, true)
  | none => (zeroSty, false)
def RI (c R : List Int) : Prop := R.length < 1000000 ∧ ∃ u, Lib.compact R = c ++ u ∧ ∀ z ∈ u, z = 0
theorem RI_next {c R : List Int} (hc : c.Pairwise (· < ·)) (h : RI c R) : RI c (comp0 R) := by
  obtain ⟨hl, u, e, hu⟩ := h
  refine ⟨by rw [comp0_len]; exact hl, ?_⟩
  unfold comp0
  rw [e, List.append_assoc]
  obtain ⟨u', e', hu'⟩ := compact_pre_of c (u ++ List.replicate (R.length - (c ++ u).length) 0) hc
  refine ⟨u', e', fun z hz => ?_⟩
  rcases List.mem_append.1 (hu' z hz) with h | h
  · exact hu z h
  · exact (List.mem_replicate.1 h).2
theorem left_asc (l : List Sty) (x : Sty) : (Lib.compact (sortI (leftL l x))).Pairwise (· < ·) ∧ (0 : Int) ∈ Lib.compact (sortI (leftL l x)) := by
  have h := compact_sorted (sortZ (leftL l x)) (sortZ_asc _)
  refine ⟨h.1, (h.2 0).2 ((mem_sortZ _ _).2 (by simp [leftL]))⟩
theorem comp0_at (l : List Int) (j : Nat) (h : j < (Lib.compact l).length) : (comp0 l).getD j 0 = (Lib.compact l).getD j 0 := getD_app h
def boxZ : List AV := [.v (.string ⟨⟨[]⟩⟩), .v (.string ⟨⟨[]⟩⟩), .v (.int .i64 0), .v (.int .i64 0), .v (.int .i64 0), .v (.int .i64 0), .v (.int .i64 0), .v (.int .i64 0)]
def sqS (bs : List By) (l : List Sty) (x : Sty) (q : Nat × (Int × Int) × List Int) : AState :=
  mkS [(3, .bp 0 0), (5, .bp 1 0), (6, .bp 6 0), (8, .bp 2 0), (10, .own 5), (13, .fn 79 [.bp 1 0, .bp 0 0, .bp 2 0]), (78, .pre 4 (Lib.compact (sortI (lowL l x))).length), (79, .v (.int .i64 (Lib.compact (sortI (lowL l x))).length)), (80, .v (.int .i64 q.1))]
    [(0, .box [.sl (bys bs)]), (1, .box (x.at_ q.2.1.1 q.2.1.2).cells), (2, .box [.own 3]), (3, .row (stys (nearL l x)) 8 48), (4, .row (ints (comp0 (sortI (lowL l x)))) 1 3), (5, .row (ints q.2.2) 1 3), (6, .box boxZ)]
def siS (bs : List By) (l : List Sty) (x : Sty) (j : Nat) (R : List Int) (y : Int) (q : Nat × (Int × Int)) : AState :=
  mkS [(3, .bp 0 0), (5, .bp 1 0), (6, .bp 6 0), (8, .bp 2 0), (10, .own 5), (13, .fn 79 [.bp 1 0, .bp 0 0, .bp 2 0]), (15, .v (.int .i64 y)), (78, .pre 4 (Lib.compact (sortI (lowL l x))).length), (79, .v (.int .i64 (Lib.compact (sortI (lowL l x))).length)), (80, .v (.int .i64 j)), (85, .pre 5 (Lib.compact R).length), (86, .v (.int .i64 (Lib.compact R).length)), (87, .v (.int .i64 q.1))]
    [(0, .box [.sl (bys bs)]), (1, .box (x.at_ q.2.1 q.2.2).cells), (2, .box [.own 3]), (3, .row (stys (nearL l x)) 8 48), (4, .row (ints (comp0 (sortI (lowL l x)))) 1 3), (5, .row (ints (comp0 R)) 1 3), (6, .box boxZ)]
theorem spot_ok (bs : List By) (l : List Sty) (x : Sty) (hb : bs.length < 100000) (hl : l.length < 90000) : Pure Tryz.prog 54 [.sl (bys bs), .sl (stys l), x.av] (.tup [(spotE bs l x).1.av, .v (.bool (spotE bs l x).2)]) := by
  refine fn_pure Tryz.F54 (Nat.le_of_ble_eq_true rfl) ?_; unfold Tryz.ac54 AR AM AO
  repeat' (first
 | (apply Awp.sreg; (case hn => (simp only [List.length_cons, List.length_nil, Nat.reduceAdd] <;> rfl)))
 | (refine st_nil ?_)
 | (apply st_a; (case hc => rfl); (case he => (simp only [go_sem, *] <;> rfl)); (case hu => (simp only [updL_nil, updL_cons] <;> rfl)); (case hp => first | trivial | (simp; done)))
 | refine Awp.block ?_
 | refine Awp.seq ?_)
  refine Awp.loop (fun i : Nat => i ≤ l.length) 200 (fun i => spS bs l x (nearL (l.take i) x) (lowL (l.take i) x) (leftL (l.take i) x) i) (fun i => l.length - i) 0 (by omega) ?_ ?_
  · refine Ghost.trans (Ghost.nameBox 4 8 48 rfl (by decide)) ?_
    unfold spS
    (apply Ghost.mk [(2, 4), (3, 12), (4, 5), (5, 6), (6, 2)] []; (case hdead => rfl); (case hinj => rfl); (case hV => (simp only [go_sem, *]) <;> (repeat' (first | refine And.intro ?_ ?_ | exact View.int (by first | rfl | omega | (simp; done) | (rw [wrap_i64] <;> (try simp only [Int.natCast_add]) <;> omega) | (simp [*]; done)) | exact .bp rfl (by decide) | exact .own rfl (by decide)))); (case hB => (simp only [go_sem, *]) <;> (repeat' (first | refine And.intro ?_ ?_ | exact ⟨_, rfl, BView.boxF rfl⟩ | exact ⟨_, rfl, BView.own1 rfl (by decide)⟩ | exact ⟨_, rfl, .rowE (by first | rfl | omega | (simp; done) | (rw [wrap_i64] <;> (try simp only [Int.natCast_add]) <;> omega) | (simp [*]; done))⟩))))
  · intro i hi
    by_cases hlt : i < l.length
    · have hlt' : (i : Int) < l.length := by omega
      have hat := stys_at l i hlt
      have hz : ((l.getD i zeroSty).cells).length = 8 := rfl
      have hst := nearL_step l x i hlt
      have hln := nearL_len (l.take i) x
      have htl : (l.take i).length = i := List.length_take_of_le hi
      have h1 := stys_one (nearL (l.take i) x)
      have h2 : (lowL (l.take i) x).length = (nearL (l.take i) x).length + 1 := by simp [lowL]
      have h3 : (leftL (l.take i) x).length = (nearL (l.take i) x).length + 1 := by simp [leftL]
      cases hB : nearB x (l.getD i zeroSty)
      · rw [hB] at hst
        simp only [Bool.false_eq_true, if_false, List.append_nil] at hst
        have hB' := hB
        unfold nearB at hB'
        have e2 : lowL (l.take (i + 1)) x = lowL (l.take i) x := by unfold lowL; rw [hst]
        have e3 : leftL (l.take (i + 1)) x = leftL (l.take i) x := by unfold leftL; rw [hst]
        unfold spS
        repeat' (first
 | (apply Awp.sreg; (case hn => (simp only [List.length_cons, List.length_nil, Nat.reduceAdd] <;> rfl)))
 | (refine st_nil ?_)
 | (apply st_a; (case hc => rfl); (case he => (simp only [go_sem, *] <;> rfl)); (case hu => (simp only [updL_nil, updL_cons] <;> rfl)); (case hp => first | trivial | omega))
 | (apply st_m; (case hc => rfl); (case hg => (simp only [go_sem, *] <;> rfl)); (case he => (intro hQz; (try simp only [wantB_t, wantB_f, Bool.and_eq_true, Bool.not_eq_true', Bool.not_true, Bool.not_false, and_true, true_and] at hQz); simp only [go_sem, *] <;> rfl)); (case hp => (intro hQz; (try simp only [wantB_t, wantB_f, Bool.and_eq_true, Bool.not_eq_true', Bool.or_eq_false_iff, decide_eq_true_eq, decide_eq_false_iff_not, beq_iff_eq, beq_eq_false_iff_ne, bne_iff_ne, bne_eq_false_iff_eq, Int.not_lt, Int.not_le, Int.ofNat_lt, Int.ofNat_le] at hQz); first | trivial)))
 | (apply Awp.reg; (case hn => (simp only [List.length_cons, List.length_nil, Nat.reduceAdd] <;> rfl)))
 | (refine Awp.skip ?_; try simp only [go_sem, *])
 | refine Awp.block ?_
 | (apply Awp.cond; (case hc => (simp only [go_sem, *] <;> rfl)); all_goals (intro hg; (try simp only [Bool.not_true, Bool.not_false, reduceCtorEq] at hg)))
 | refine Awp.seq ?_)
        refine ⟨i + 1, by omega, by omega, ?_⟩
        (apply Ghost.mk [] []; (case hdead => rfl); (case hinj => rfl); (case hV => (simp only [go_sem, *]) <;> (repeat' (first | refine And.intro ?_ ?_ | exact View.int (by first | rfl | omega | (simp; done) | (rw [wrap_i64] <;> (try simp only [Int.natCast_add]) <;> omega) | (simp [*]; done)) | exact .bp rfl (by decide) | exact .own rfl (by decide)))); (case hB => (simp only [go_sem, *]) <;> (repeat' (first | refine And.intro ?_ ?_ | exact ⟨_, rfl, BView.boxF rfl⟩ | exact ⟨_, rfl, BView.own1 rfl (by decide)⟩ | exact ⟨_, rfl, .rowE (by first | rfl | omega | (simp; done) | (rw [wrap_i64] <;> (try simp only [Int.natCast_add]) <;> omega) | (simp [*]; done))⟩))))
      · rw [hB] at hst
        simp only [if_true] at hst
        have hB' := hB
        unfold nearB at hB'
        have e2 : lowL (l.take (i + 1)) x = lowL (l.take i) x ++ [IntKind.i64.wrap ((l.getD i zeroSty).y + (l.getD i zeroSty).wid)] := by unfold lowL; rw [hst]; simp
        have e3 : leftL (l.take (i + 1)) x = leftL (l.take i) x ++ [IntKind.i64.wrap ((l.getD i zeroSty).x + (l.getD i zeroSty).len)] := by unfold leftL; rw [hst]; simp
        unfold spS
        repeat' (first
 | (apply Awp.sreg; (case hn => (simp only [List.length_cons, List.length_nil, Nat.reduceAdd] <;> rfl)))
 | (refine st_nil ?_)
 | (apply st_a; (case hc => rfl); (case he => (simp only [go_sem, *] <;> rfl)); (case hu => (simp only [updL_nil, updL_cons] <;> rfl)); (case hp => first | trivial | omega | (simp; done) | (simp; omega)))
 | (apply st_m; (case hc => rfl); (case hg => (simp only [go_sem, *] <;> rfl)); (case he => (intro hQz; (try simp only [wantB_t, wantB_f, Bool.and_eq_true, Bool.not_eq_true', Bool.not_true, Bool.not_false, and_true, true_and] at hQz); simp only [go_sem, *] <;> rfl)); (case hp => (intro hQz; (try simp only [wantB_t, wantB_f, Bool.and_eq_true, Bool.not_eq_true', Bool.or_eq_false_iff, decide_eq_true_eq, decide_eq_false_iff_not, beq_iff_eq, beq_eq_false_iff_ne, bne_iff_ne, bne_eq_false_iff_eq, Int.not_lt, Int.not_le, Int.ofNat_lt, Int.ofNat_le] at hQz); first | trivial)))
 | (apply Awp.reg; (case hn => (simp only [List.length_cons, List.length_nil, Nat.reduceAdd] <;> rfl)))
 | (refine Awp.skip ?_; try simp only [go_sem, *])
 | refine Awp.block ?_
 | (apply Awp.cond; (case hc => (simp only [go_sem, *] <;> rfl)); all_goals (intro hg; (try simp only [Bool.not_true, Bool.not_false, reduceCtorEq] at hg)))
 | refine Awp.seq ?_
 | (refine Awp.draw ?_)
 | (apply sl_a; (case hc => rfl); (case he => (simp only [go_sem, *] <;> rfl)); (case hu => (simp only [updL_nil, updL_cons] <;> rfl)); (case hl => (simp only [List.map_cons, List.map_nil] <;> rfl)); (case hp => first | trivial | (simp; done) | (simp; omega)))
 | (refine sl_nil (And.intro (by first | exact drawOk_of (by decide +kernel) | (simp only [List.map_cons, List.map_nil]; exact drawOk_of (by decide +kernel)) | decide) ?_)))
        refine ⟨i + 1, by omega, by omega, ?_⟩
        (apply Ghost.mk [(3, 231), (4, 241), (5, 250)] []; (case hdead => rfl); (case hinj => rfl); (case hV => (simp only [go_sem, *]) <;> (repeat' (first | refine And.intro ?_ ?_ | exact View.int (by first | rfl | exact (stys_snoc _ _) | exact (ints_snoc _ _) | omega | (simp; done) | (rw [wrap_i64] <;> (try simp only [Int.natCast_add]) <;> omega) | (simp [*]; done)) | exact .bp rfl (by decide) | exact .own rfl (by decide)))); (case hB => (simp only [go_sem, *]) <;> (repeat' (first | refine And.intro ?_ ?_ | exact ⟨_, rfl, BView.boxF rfl⟩ | exact ⟨_, rfl, BView.own1 rfl (by decide)⟩ | exact ⟨_, rfl, .rowE (by first | rfl | exact (stys_snoc _ _) | exact (ints_snoc _ _) | omega | (simp; done) | (rw [wrap_i64] <;> (try simp only [Int.natCast_add]) <;> omega) | (simp [*]; done))⟩))))
    · have hlt' : ¬ (i : Int) < l.length := by omega
      have e1 : l.take i = l := List.take_of_length_le (by omega)
      have hnl := nearL_len l x
      have hl1 : (lowL l x).length < 1000000 := by simp [lowL]; omega
      have hl2 : (leftL l x).length < 1000000 := by simp [leftL]; omega
      have hs1 : (sortI (lowL l x)).length < 1000000 := by rw [sortI_len]; omega
      unfold spS
      repeat' (first
 | (apply Awp.sreg; (case hn => (simp only [List.length_cons, List.length_nil, Nat.reduceAdd] <;> rfl)))
 | (refine st_nil ?_)
 | (apply st_a; (case hc => rfl); (case he => (simp only [go_sem, *] <;> rfl)); (case hu => (simp only [updL_nil, updL_cons] <;> rfl)); (case hp => first | trivial))
 | (apply st_cc; (case hc => (simp only [go_sem, *] <;> rfl)); (case hcc => exact sort_cc (lowL l x) _ _ 3 hl1); (case hh => (first | (simp only [List.mem_singleton, forall_eq]; first | (simp only [go_sem, *] <;> rfl) | (simp only [go_sem, *]; simp [ints])) | (intro p hp; cases hp; done) | (intro p hp; simp only [List.mem_cons, List.not_mem_nil, or_false] at hp; rcases hp with rfl | rfl | rfl | rfl | rfl | rfl | rfl <;> (simp only [go_sem, *] <;> rfl)) | (intro p hp; simp only [List.mem_cons, List.not_mem_nil, or_false] at hp; rcases hp with rfl | rfl | rfl | rfl <;> (simp only [go_sem, *] <;> rfl)))); (case hu => (first | (simp; done) | decide)); (case hm => (first | decide | (simp; done))); (case hw => (simp only [updL_nil, updL_cons] <;> rfl)))
 | (apply st_cc; (case hc => (simp only [go_sem, *] <;> rfl)); (case hcc => exact sort_cc (leftL l x) _ _ 3 hl2); (case hh => (first | (simp only [List.mem_singleton, forall_eq]; first | (simp only [go_sem, *] <;> rfl) | (simp only [go_sem, *]; simp [ints])) | (intro p hp; cases hp; done) | (intro p hp; simp only [List.mem_cons, List.not_mem_nil, or_false] at hp; rcases hp with rfl | rfl | rfl | rfl | rfl | rfl | rfl <;> (simp only [go_sem, *] <;> rfl)) | (intro p hp; simp only [List.mem_cons, List.not_mem_nil, or_false] at hp; rcases hp with rfl | rfl | rfl | rfl <;> (simp only [go_sem, *] <;> rfl)))); (case hu => (first | (simp; done) | decide)); (case hm => (first | decide | (simp; done))); (case hw => (simp only [updL_nil, updL_cons] <;> rfl)))
 | (apply st_cc; (case hc => (simp only [go_sem, *] <;> rfl)); (case hcc => exact compact_pre (sortI (lowL l x)) _ _ 3 hs1); (case hh => (first | (simp only [List.mem_singleton, forall_eq]; first | (simp only [go_sem, *] <;> rfl) | (simp only [go_sem, *]; simp [ints])) | (intro p hp; cases hp; done) | (intro p hp; simp only [List.mem_cons, List.not_mem_nil, or_false] at hp; rcases hp with rfl | rfl | rfl | rfl | rfl | rfl | rfl <;> (simp only [go_sem, *] <;> rfl)) | (intro p hp; simp only [List.mem_cons, List.not_mem_nil, or_false] at hp; rcases hp with rfl | rfl | rfl | rfl <;> (simp only [go_sem, *] <;> rfl)))); (case hu => (first | (simp; done) | decide)); (case hm => (first | decide | (simp; done))); (case hw => (simp only [updL_nil, updL_cons] <;> rfl)))
 | (refine Awp.exit ?_; try simp only [go_sem, *])
 | refine Awp.block ?_
 | (apply Awp.cond; (case hc => (simp only [go_sem, *] <;> rfl)); all_goals (intro hg; (try simp only [Bool.not_true, Bool.not_false, reduceCtorEq] at hg)))
 | refine Awp.seq ?_)
      have hasc := left_asc l x
      refine Awp.loop (fun q : Nat × (Int × Int) × List Int => q.1 ≤ (Lib.compact (sortI (lowL l x))).length ∧ RI (Lib.compact (sortI (leftL l x))) q.2.2 ∧ ∀ j, j < q.1 → ((Lib.compact (sortI (leftL l x))).find? fun X => placeB bs l x X ((Lib.compact (sortI (lowL l x))).getD j 0)) = none) 300
        (fun q => sqS bs l x q) (fun q => (Lib.compact (sortI (lowL l x))).length - q.1) (0, (x.x, x.y), sortI (leftL l x)) ⟨Nat.zero_le _, ⟨by rw [sortI_len]; exact hl2, [], by simp, by simp⟩, fun j hj => by simp at hj⟩ ?_ ?_
      · unfold sqS boxZ Sty.at_
        (apply Ghost.mk [] []; (case hdead => rfl); (case hinj => rfl); (case hV => (simp only [go_sem, *]) <;> (repeat' (first | refine And.intro ?_ ?_ | exact View.int (by first | rfl | omega | (simp; done) | (rw [wrap_i64] <;> (try simp only [Int.natCast_add]) <;> omega) | (simp [*]; done)) | exact .bp rfl (by decide) | exact .own rfl (by decide) | exact .pre rfl (by decide) | exact View.fn3 rfl rfl rfl (by decide)))); (case hB => (simp only [go_sem, *]) <;> (repeat' (first | refine And.intro ?_ ?_ | exact ⟨_, rfl, BView.boxF rfl⟩ | exact ⟨_, rfl, BView.own1 rfl (by decide)⟩ | exact ⟨_, rfl, .rowE (by first | rfl | omega | (simp; done) | (rw [wrap_i64] <;> (try simp only [Int.natCast_add]) <;> omega) | (simp [*]; done))⟩))))
      · clear hi hlt hlt' e1 hl1 hl2 i
        intro ⟨j, ⟨X0, Y0⟩, R⟩ ⟨hj, hR, hn⟩
        dsimp only at hj hR hn
        by_cases hlt : j < (Lib.compact (sortI (lowL l x))).length
        · have hR0 := hR
          obtain ⟨hRl, u, hu, huz⟩ := hR0
          have hc0 := comp0_at (sortI (lowL l x)) j hlt
          have hcl := comp0_len (sortI (lowL l x))
          have hcl2 := compact_len (sortI (lowL l x))
          have hlt' : (j : Int) < (Lib.compact (sortI (lowL l x))).length := by omega
          have hjc : j < (comp0 (sortI (lowL l x))).length := by omega
          have hle : (Lib.compact (sortI (lowL l x))).length ≤ (comp0 (sortI (lowL l x))).length := by omega
          have hat := ints_at (comp0 (sortI (lowL l x))) j hjc
          rw [hc0] at hat
          have hLB : (Lib.compact (sortI (lowL l x))).length < 1000000 := by omega
          clear hnl hcl hcl2 hs1
          unfold sqS boxZ
          repeat' (first
 | (apply Awp.sreg; (case hn => (simp only [List.length_cons, List.length_nil, Nat.reduceAdd] <;> rfl)))
 | (refine st_nil ?_)
 | (apply st_a; (case hc => rfl); (case he => (simp only [go_sem, *] <;> rfl)); (case hu => (simp only [updL_nil, updL_cons] <;> rfl)); (case hp => first | trivial | omega))
 | (apply st_cc; (case hc => (simp only [go_sem, *] <;> rfl)); (case hcc => exact compact_pre R _ _ 3 hRl); (case hh => (first | (simp only [List.mem_singleton, forall_eq]; first | (simp only [go_sem, *] <;> rfl) | (simp only [go_sem, *]; simp [ints])) | (intro p hp; cases hp; done) | (intro p hp; simp only [List.mem_cons, List.not_mem_nil, or_false] at hp; rcases hp with rfl | rfl | rfl | rfl | rfl | rfl | rfl <;> (simp only [go_sem, *] <;> rfl)) | (intro p hp; simp only [List.mem_cons, List.not_mem_nil, or_false] at hp; rcases hp with rfl | rfl | rfl | rfl <;> (simp only [go_sem, *] <;> rfl)))); (case hu => (first | (simp; done) | decide)); (case hm => (first | decide | (simp; done))); (case hw => (simp only [updL_nil, updL_cons] <;> rfl)))
 | (refine Awp.skip ?_; try simp only [go_sem, *])
 | refine Awp.block ?_
 | (apply Awp.cond; (case hc => (simp only [go_sem, *] <;> rfl)); all_goals (intro hg; (try simp only [Bool.not_true, Bool.not_false, reduceCtorEq] at hg)))
 | refine Awp.seq ?_)
          refine Awp.loop (fun q : Nat × (Int × Int) => q.1 ≤ (Lib.compact R).length ∧ ∀ i, i < q.1 → placeB bs l x ((Lib.compact R).getD i 0) ((Lib.compact (sortI (lowL l x))).getD j 0) = false) 400
            (fun q => siS bs l x j R ((Lib.compact (sortI (lowL l x))).getD j 0) q) (fun q => (Lib.compact R).length - q.1) (0, (X0, Y0)) ⟨Nat.zero_le _, fun i hi => by simp at hi⟩ ?_ ?_
          · unfold siS boxZ
            (apply Ghost.mk [] []; (case hdead => rfl); (case hinj => rfl); (case hV => (simp only [go_sem, *]) <;> (repeat' (first | refine And.intro ?_ ?_ | exact View.int (by first | rfl | omega | (simp; done) | (rw [wrap_i64] <;> (try simp only [Int.natCast_add]) <;> omega) | (simp [*]; done)) | exact .bp rfl (by decide) | exact .own rfl (by decide) | exact .pre rfl (by decide) | exact View.fn3 rfl rfl rfl (by decide)))); (case hB => (simp only [go_sem, *]) <;> (repeat' (first | refine And.intro ?_ ?_ | exact ⟨_, rfl, BView.boxF rfl⟩ | exact ⟨_, rfl, BView.own1 rfl (by decide)⟩ | exact ⟨_, rfl, .rowE (by first | rfl | omega | (simp; done) | (rw [wrap_i64] <;> (try simp only [Int.natCast_add]) <;> omega) | (simp [*]; done))⟩))))
          · intro ⟨k, ⟨X1, Y1⟩⟩ ⟨hk, hno⟩
            dsimp only at hk hno
            have hRc := comp0_len R
            have hRc2 := compact_len R
            have hRB : (Lib.compact R).length < 1000000 := by omega
            by_cases hkl : k < (Lib.compact R).length
            · have hc1 := comp0_at R k hkl
              have hkl' : (k : Int) < (Lib.compact R).length := by omega
              have hkc : k < (comp0 R).length := by omega
              have hle2 : (Lib.compact R).length ≤ (comp0 R).length := by omega
              have hat2 := ints_at (comp0 R) k hkc
              rw [hc1] at hat2
              have hcl : (nearL l x).length < 1000000 := by have := nearL_len l x; omega
              have hhit : placeB bs l x ((Lib.compact R).getD k 0) ((Lib.compact (sortI (lowL l x))).getD j 0) = true → spotE bs l x = (x.at_ ((Lib.compact R).getD k 0) ((Lib.compact (sortI (lowL l x))).getD j 0), true) := fun hp => by
                unfold spotE
                rw [scan_hit hlt hn (inner_hit (P := fun X => placeB bs l x X ((Lib.compact (sortI (lowL l x))).getD j 0)) hu huz hasc.2 hkl hp hno)]
              have hnext : placeB bs l x ((Lib.compact R).getD k 0) ((Lib.compact (sortI (lowL l x))).getD j 0) = false → ∀ i, i < k + 1 → placeB bs l x ((Lib.compact R).getD i 0) ((Lib.compact (sortI (lowL l x))).getD j 0) = false := fun hp => ltSucc hno hp
              clear hat hc0 hc1 hRl hlt' hjc hRc hRc2 hno hn hu huz hasc hk
              generalize hoff : (Lib.compact R).getD k 0 = off at *
              generalize hy : (Lib.compact (sortI (lowL l x))).getD j 0 = y at *
              have cc : ∀ nm, 4 ≤ nm → CallC Tryz.prog 79 [.agg [.v (.int .i64 off), .v (.int .i64 y)], .bp 1 0, .bp 0 0, .bp 2 0] [(1, .box (x.at_ X1 Y1).cells), (0, .box [.sl (bys bs)]), (2, .box [.own 3]), (3, .row (stys (nearL l x)) 8 48)] nm
                  (.v (.bool (placeB bs l x off y))) [(1, some (.box (x.at_ off y).cells)), (0, some (.box [.sl (bys bs)])), (2, some (.box [.own 3])), (3, some (.row (stys (nearL l x)) 8 48))] :=
                fun nm h => spotC_ok bs (nearL l x) (x.at_ X1 Y1) off y nm (by omega) hcl h
              clear hoff
              cases hpb : placeB bs l x off y
              · have hnx := hnext hpb
                rw [hpb] at cc
                clear hhit hnext hpb hcl
                unfold siS boxZ Sty.at_ at *
                repeat' (first
 | (apply Awp.sreg; (case hn => (simp only [List.length_cons, List.length_nil, Nat.reduceAdd] <;> rfl)))
 | (refine st_nil ?_)
 | (apply st_a; (case hc => rfl); (case he => (simp only [go_sem, *] <;> rfl)); (case hu => (simp only [updL_nil, updL_cons] <;> rfl)); (case hp => first | trivial | omega))
 | (apply st_cc; (case hc => (simp only [go_sem, *] <;> rfl)); (case hcc => exact cc _ (by omega)); (case hh => (first | (simp only [List.mem_singleton, forall_eq]; first | (simp only [go_sem, *] <;> rfl) | (simp only [go_sem, *]; simp [ints])) | (intro p hp; cases hp; done) | (intro p hp; simp only [List.mem_cons, List.not_mem_nil, or_false] at hp; rcases hp with rfl | rfl | rfl | rfl | rfl | rfl | rfl <;> (simp only [go_sem, *] <;> rfl)) | (intro p hp; simp only [List.mem_cons, List.not_mem_nil, or_false] at hp; rcases hp with rfl | rfl | rfl | rfl <;> (simp only [go_sem, *] <;> rfl)))); (case hu => (first | (simp; done) | decide)); (case hm => (first | decide | (simp; done))); (case hw => (simp only [updL_nil, updL_cons] <;> rfl)))
 | (apply Awp.reg; (case hn => (simp only [List.length_cons, List.length_nil, Nat.reduceAdd] <;> rfl)))
 | (refine Awp.skip ?_; try simp only [go_sem, *])
 | refine Awp.block ?_
 | (apply Awp.cond; (case hc => (simp only [go_sem, *] <;> rfl)); all_goals (intro hg; (try simp only [Bool.not_true, Bool.not_false, reduceCtorEq] at hg)))
 | refine Awp.seq ?_)
                refine ⟨(k + 1, (off, y)), ⟨by dsimp only; omega, hnx⟩, by dsimp only; omega, ?_⟩
                (apply Ghost.mk [] []; (case hdead => rfl); (case hinj => rfl); (case hV => (simp only [go_sem, *]) <;> (repeat' (first | refine And.intro ?_ ?_ | exact View.int (by first | rfl | omega | (simp; done) | (rw [wrap_i64] <;> (try simp only [Int.natCast_add]) <;> omega) | (simp [*]; done)) | exact .bp rfl (by decide) | exact .own rfl (by decide) | exact .pre rfl (by decide) | exact View.fn3 rfl rfl rfl (by decide)))); (case hB => (simp only [go_sem, *]) <;> (repeat' (first | refine And.intro ?_ ?_ | exact ⟨_, rfl, BView.boxF rfl⟩ | exact ⟨_, rfl, BView.own1 rfl (by decide)⟩ | exact ⟨_, rfl, .rowE (by first | rfl | omega | (simp; done) | (rw [wrap_i64] <;> (try simp only [Int.natCast_add]) <;> omega) | (simp [*]; done))⟩))))
              · have hr := hhit hpb
                rw [hr]
                rw [hpb] at cc
                clear hhit hnext hpb hcl hr
                unfold siS boxZ Sty.at_ at *
                repeat' (first
 | (apply Awp.sreg; (case hn => (simp only [List.length_cons, List.length_nil, Nat.reduceAdd] <;> rfl)))
 | (refine st_nil ?_)
 | (apply st_a; (case hc => rfl); (case he => (simp only [go_sem, *] <;> rfl)); (case hu => (simp only [updL_nil, updL_cons] <;> rfl)); (case hp => first | trivial | omega))
 | (apply st_cc; (case hc => (simp only [go_sem, *] <;> rfl)); (case hcc => exact cc _ (by omega)); (case hh => (first | (simp only [List.mem_singleton, forall_eq]; first | (simp only [go_sem, *] <;> rfl) | (simp only [go_sem, *]; simp [ints])) | (intro p hp; cases hp; done) | (intro p hp; simp only [List.mem_cons, List.not_mem_nil, or_false] at hp; rcases hp with rfl | rfl | rfl | rfl | rfl | rfl | rfl <;> (simp only [go_sem, *] <;> rfl)) | (intro p hp; simp only [List.mem_cons, List.not_mem_nil, or_false] at hp; rcases hp with rfl | rfl | rfl | rfl <;> (simp only [go_sem, *] <;> rfl)))); (case hu => (first | (simp; done) | decide)); (case hm => (first | decide | (simp; done))); (case hw => (simp only [updL_nil, updL_cons] <;> rfl)))
 | (refine Awp.ret ?_; try simp only [go_sem, *])
 | (refine Awp.skip ?_; try simp only [go_sem, *])
 | refine Awp.block ?_
 | (apply Awp.cond; (case hc => (simp only [go_sem, *] <;> rfl)); all_goals (intro hg; (try simp only [Bool.not_true, Bool.not_false, reduceCtorEq] at hg)))
 | refine Awp.seq ?_)
                all_goals repeat' (first | exact Lower.bool (by first | rfl | (simp only [true_and, Bool.true_and, Bool.false_and, Bool.and_true, Bool.and_false, Bool.true_or, Bool.false_or, reduceIte, Bool.false_eq_true, *]; done) | (simp only [true_and, reduceIte, Bool.false_eq_true, *] <;> rfl) | (simp [true_and]; done) | (simp_all [true_and]; done) | omega) | exact Lower.int (by first | rfl | (simp only [true_and, Bool.true_and, Bool.false_and, Bool.and_true, Bool.and_false, Bool.true_or, Bool.false_or, reduceIte, Bool.false_eq_true, *]; done) | (simp only [true_and, reduceIte, Bool.false_eq_true, *] <;> rfl) | (simp [true_and]; done) | (simp_all [true_and]; done) | omega) | exact Lower.str (by first | rfl | (simp only [true_and, Bool.true_and, Bool.false_and, Bool.and_true, Bool.and_false, Bool.true_or, Bool.false_or, reduceIte, Bool.false_eq_true, *]; done) | (simp only [true_and, reduceIte, Bool.false_eq_true, *] <;> rfl) | (simp [true_and]; done) | (simp_all [true_and]; done) | omega) | refine Lower.aggF ?_ | refine Lower.tupF ?_ | refine All2.cons ?_ ?_ | exact All2.nil)
            · have hkl' : ¬ (k : Int) < (Lib.compact R).length := by omega
              have hRn := RI_next hasc.1 hR
              have hne := ltSucc hn (inner_none (P := fun X => placeB bs l x X ((Lib.compact (sortI (lowL l x))).getD j 0)) hu (Nat.le_of_not_lt hkl) hno)
              clear hn hno hu huz hat hc0 hasc
              unfold siS boxZ
              repeat' (first
 | (apply Awp.sreg; (case hn => (simp only [List.length_cons, List.length_nil, Nat.reduceAdd] <;> rfl)))
 | (refine st_nil ?_)
 | (apply st_a; (case hc => rfl); (case he => (simp only [go_sem, *] <;> rfl)); (case hu => (simp only [updL_nil, updL_cons] <;> rfl)); (case hp => first | trivial))
 | (apply Awp.reg; (case hn => (simp only [List.length_cons, List.length_nil, Nat.reduceAdd] <;> rfl)))
 | (refine Awp.exit ?_; try simp only [go_sem, *])
 | (apply Awp.cond; (case hc => (simp only [go_sem, *] <;> rfl)); all_goals (intro hg; (try simp only [Bool.not_true, Bool.not_false, reduceCtorEq] at hg)))
 | refine Awp.seq ?_)
              refine ⟨(j + 1, (X1, Y1), comp0 R), ⟨by dsimp only; omega, hRn, hne⟩, by dsimp only; omega, ?_⟩
              unfold Sty.at_
              (apply Ghost.mk [] []; (case hdead => rfl); (case hinj => rfl); (case hV => (simp only [go_sem, *]) <;> (repeat' (first | refine And.intro ?_ ?_ | exact View.int (by first | rfl | omega | (simp; done) | (rw [wrap_i64] <;> (try simp only [Int.natCast_add]) <;> omega) | (simp [*]; done)) | exact .bp rfl (by decide) | exact .own rfl (by decide) | exact .pre rfl (by decide) | exact View.fn3 rfl rfl rfl (by decide)))); (case hB => (simp only [go_sem, *]) <;> (repeat' (first | refine And.intro ?_ ?_ | exact ⟨_, rfl, BView.boxF rfl⟩ | exact ⟨_, rfl, BView.own1 rfl (by decide)⟩ | exact ⟨_, rfl, .rowE (by first | rfl | omega | (simp; done) | (rw [wrap_i64] <;> (try simp only [Int.natCast_add]) <;> omega) | (simp [*]; done))⟩))))
        · have hlt' : ¬ (j : Int) < (Lib.compact (sortI (lowL l x))).length := by omega
          have hr : spotE bs l x = (zeroSty, false) := by
            unfold spotE
            rw [scan_no (Nat.le_of_not_lt hlt) hn]
          rw [hr]
          clear hn hR hasc hr
          unfold sqS boxZ
          repeat' (first
 | (apply Awp.sreg; (case hn => (simp only [List.length_cons, List.length_nil, Nat.reduceAdd] <;> rfl)))
 | (refine st_nil ?_)
 | (apply st_a; (case hc => rfl); (case he => (simp only [go_sem, *] <;> rfl)); (case hu => (simp only [updL_nil, updL_cons] <;> rfl)); (case hp => first | trivial))
 | (refine Awp.ret ?_; try simp only [go_sem, *])
 | (refine Awp.exit ?_; try simp only [go_sem, *])
 | (apply Awp.cond; (case hc => (simp only [go_sem, *] <;> rfl)); all_goals (intro hg; (try simp only [Bool.not_true, Bool.not_false, reduceCtorEq] at hg)))
 | refine Awp.seq ?_)
          all_goals repeat' (first | exact Lower.bool (by first | rfl | (simp only [zeroSty, Bool.true_and, Bool.false_and, Bool.and_true, Bool.and_false, Bool.true_or, Bool.false_or, reduceIte, Bool.false_eq_true, *]; done) | (simp only [zeroSty, reduceIte, Bool.false_eq_true, *] <;> rfl) | (simp [zeroSty]; done) | (simp_all [zeroSty]; done) | omega) | exact Lower.int (by first | rfl | (simp only [zeroSty, Bool.true_and, Bool.false_and, Bool.and_true, Bool.and_false, Bool.true_or, Bool.false_or, reduceIte, Bool.false_eq_true, *]; done) | (simp only [zeroSty, reduceIte, Bool.false_eq_true, *] <;> rfl) | (simp [zeroSty]; done) | (simp_all [zeroSty]; done) | omega) | exact Lower.str (by first | rfl | (simp only [zeroSty, Bool.true_and, Bool.false_and, Bool.and_true, Bool.and_false, Bool.true_or, Bool.false_or, reduceIte, Bool.false_eq_true, *]; done) | (simp only [zeroSty, reduceIte, Bool.false_eq_true, *] <;> rfl) | (simp [zeroSty]; done) | (simp_all [zeroSty]; done) | omega) | refine Lower.aggF ?_ | refine Lower.tupF ?_ | refine All2.cons ?_ ?_ | exact All2.nil)
def sB : ByteArray := ⟨⟨[66]⟩⟩
def sI : ByteArray := ⟨⟨[73]⟩⟩
def mk (x y len wid a b : Int) : Sty := ⟨sI, sB, x, y, len, wid, a, b⟩
theorem fs_hit {α β : Type} {f : α → Option β} {l : List α} {d : α} {i : Nat} {b : β} (hi : i < l.length) (hj : ∀ j, j < i → f (l.getD j d) = none) (h : f (l.getD i d) = some b) : l.findSome? f = some b := by
  have h1 : l.getD i d = l[i] := by simp [List.getD_eq_getElem?_getD, hi]
  have e : l = l.take i ++ l[i] :: l.drop (i + 1) := by rw [List.getElem_cons_drop, List.take_append_drop]
  have hn : (l.take i).findSome? f = none := by
    rw [List.findSome?_eq_none_iff]
    intro y hy
    obtain ⟨j, hjl, rfl⟩ := List.getElem_of_mem hy
    have hji : j < i := by simp at hjl; omega
    have := hj j hji
    have hjll : j < l.length := by omega
    have h2 : l.getD j d = (l.take i)[j] := by simp [List.getD_eq_getElem?_getD, hjll]
    rwa [h2] at this
  rw [h1] at h
  rw [e, List.findSome?_append, hn, Option.none_or, List.findSome?_cons, h]
theorem fs_no {α β : Type} {f : α → Option β} {l : List α} {d : α} {i : Nat} (hi : l.length ≤ i) (hj : ∀ j, j < i → f (l.getD j d) = none) : l.findSome? f = none := by
  rw [List.findSome?_eq_none_iff]
  intro y hy
  obtain ⟨j, hjl, rfl⟩ := List.getElem_of_mem hy
  have := hj j (by omega)
  rwa [List.getD_eq_getElem?_getD, List.getElem?_eq_getElem hjl, Option.getD_some] at this
def Sty.when (x : Sty) (nm : ByteArray) (a b : Int) : Sty := ⟨x.item, nm, x.x, x.y, x.len, x.wid, a, b⟩
def tryB (bs : List By) (l : List Sty) (x : Sty) (h t : Int) (q : By) : Option Sty := if (spotE bs l (x.when q.nm t (IntKind.i64.wrap (t + h)))).2 then some (spotE bs l (x.when q.nm t (IntKind.i64.wrap (t + h)))).1 else none
def fitR (x : Sty) (h : Int) : Bool := !sideB x.len || !sideB x.wid || decide (h < 1) || decide (1048576 < h) || decide (x.a < 0) || decide (1048576 < x.a)
def fitS (bs : List By) (l : List Sty) (x : Sty) (h : Int) : Option Sty := (startsZ l x.a).findSome? fun t => bs.findSome? (tryB bs l x h t)
def fitE (bs : List By) (l : List Sty) (x : Sty) (h : Int) : Sty × Int :=
  if checkE bs l != 0 then (zeroSty, checkE bs l) else if !idB x.item then (zeroSty, 6) else if fitR x h then (zeroSty, 9) else if decide ((128 : Int) ≤ l.length) then (zeroSty, 12)
  else match fitS bs l x h with
    | some y => (y, 0)
    | none => (zeroSty, 18)
theorem fit_ok (bs : List By) (l : List Sty) (x : Sty) (h : Int) (hb : bs.length < 90000) (hl : l.length < 90000) : Pure Tryz.prog 30 [.sl (bys bs), .sl (stys l), x.av, .v (.int .i64 h)] (.tup [(fitE bs l x h).1.av, .v (.int .i64 (fitE bs l x h).2)]) := by
  have c0 := check_ok bs l (by omega) (by omega)
  have c1 := isid_ok x.item
  have c2 := starts_ok l x.a (by omega)
  unfold fitE
  by_cases hC : checkE bs l = 0
  case neg =>
    have hC' : (checkE bs l != 0) = true := by simpa using hC
    rw [if_pos hC']
    generalize checkE bs l = e at *
    refine fn_pure Tryz.F30 (Nat.le_of_ble_eq_true rfl) ?_; unfold Tryz.ac30 AR AM AO
    repeat' (first
 | (apply Awp.sreg; (case hn => (simp only [List.length_cons, List.length_nil, Nat.reduceAdd] <;> rfl)))
 | (refine st_nil ?_)
 | (apply st_a; (case hc => rfl); (case he => (simp only [go_sem, *] <;> rfl)); (case hu => (simp only [updL_nil, updL_cons] <;> rfl)); (case hp => first | trivial))
 | (apply st_c; (case hc => (simp only [go_sem, *] <;> rfl)); (case hl => (simp only [go_sem, *] <;> rfl)); (case hn => (simp only [go_sem, *] <;> rfl)); (case hp => first | exact c0 | (have hXz := c0; simp only [go_sem, *] at hXz; exact hXz)))
 | (refine Awp.ret ?_; try simp only [go_sem, *])
 | (apply Awp.cond; (case hc => (simp only [go_sem, *] <;> rfl)); all_goals (intro hg; (try simp only [Bool.not_true, Bool.not_false, reduceCtorEq] at hg)))
 | refine Awp.seq ?_)
    all_goals repeat' (first | exact Lower.int (by first | rfl | (simp only [zeroSty, Bool.true_and, Bool.false_and, Bool.and_true, Bool.and_false, Bool.true_or, Bool.false_or, reduceIte, Bool.false_eq_true, *]; done) | (simp only [zeroSty, reduceIte, Bool.false_eq_true, *] <;> rfl) | (simp [zeroSty]; done) | (simp_all [zeroSty]; done) | omega) | exact Lower.str (by first | rfl | (simp only [zeroSty, Bool.true_and, Bool.false_and, Bool.and_true, Bool.and_false, Bool.true_or, Bool.false_or, reduceIte, Bool.false_eq_true, *]; done) | (simp only [zeroSty, reduceIte, Bool.false_eq_true, *] <;> rfl) | (simp [zeroSty]; done) | (simp_all [zeroSty]; done) | omega) | refine Lower.aggF ?_ | refine Lower.tupF ?_ | refine All2.cons ?_ ?_ | exact All2.nil)
  rw [if_neg (by rw [hC]; simp)]
  rw [hC] at c0
  cases h1 : idB x.item
  · rw [if_pos (by simp)]
    refine fn_pure Tryz.F30 (Nat.le_of_ble_eq_true rfl) ?_; unfold Tryz.ac30 AR AM AO
    repeat' (first
 | (apply Awp.sreg; (case hn => (simp only [List.length_cons, List.length_nil, Nat.reduceAdd] <;> rfl)))
 | (refine st_nil ?_)
 | (apply st_a; (case hc => rfl); (case he => (simp only [go_sem, *] <;> rfl)); (case hu => (simp only [updL_nil, updL_cons] <;> rfl)); (case hp => first | trivial))
 | (apply st_c; (case hc => (simp only [go_sem, *] <;> rfl)); (case hl => (simp only [go_sem, *] <;> rfl)); (case hn => (simp only [go_sem, *] <;> rfl)); (case hp => first | exact c0 | (have hXz := c0; simp only [go_sem, *] at hXz; exact hXz)))
 | (apply st_c; (case hc => (simp only [go_sem, *] <;> rfl)); (case hl => (simp only [go_sem, *] <;> rfl)); (case hn => (simp only [go_sem, *] <;> rfl)); (case hp => first | exact c1 | (have hXz := c1; simp only [go_sem, *] at hXz; exact hXz)))
 | (refine Awp.ret ?_; try simp only [go_sem, *])
 | (refine Awp.skip ?_; try simp only [go_sem, *])
 | refine Awp.block ?_
 | (apply Awp.cond; (case hc => (simp only [go_sem, *] <;> rfl)); all_goals (intro hg; (try simp only [Bool.not_true, Bool.not_false, reduceCtorEq] at hg)))
 | refine Awp.seq ?_)
    all_goals repeat' (first | exact Lower.int (by first | rfl | (simp only [zeroSty, Bool.true_and, Bool.false_and, Bool.and_true, Bool.and_false, Bool.true_or, Bool.false_or, reduceIte, Bool.false_eq_true, *]; done) | (simp only [zeroSty, reduceIte, Bool.false_eq_true, *] <;> rfl) | (simp [zeroSty]; done) | (simp_all [zeroSty]; done) | omega) | exact Lower.str (by first | rfl | (simp only [zeroSty, Bool.true_and, Bool.false_and, Bool.and_true, Bool.and_false, Bool.true_or, Bool.false_or, reduceIte, Bool.false_eq_true, *]; done) | (simp only [zeroSty, reduceIte, Bool.false_eq_true, *] <;> rfl) | (simp [zeroSty]; done) | (simp_all [zeroSty]; done) | omega) | refine Lower.aggF ?_ | refine Lower.tupF ?_ | refine All2.cons ?_ ?_ | exact All2.nil)
  rw [if_neg (by simp)]
  rw [h1] at c1
  cases h2 : fitR x h
  case true =>
    rw [if_pos rfl]
    have h2' := h2
    unfold fitR at h2'
    refine fn_pure Tryz.F30 (Nat.le_of_ble_eq_true rfl) ?_; unfold Tryz.ac30 AR AM AO
    repeat' (first
 | (apply Awp.sreg; (case hn => (simp only [List.length_cons, List.length_nil, Nat.reduceAdd] <;> rfl)))
 | (refine st_nil ?_)
 | (apply st_a; (case hc => rfl); (case he => (simp only [go_sem, *] <;> rfl)); (case hu => (simp only [updL_nil, updL_cons] <;> rfl)); (case hp => first | trivial))
 | (apply st_m; (case hc => rfl); (case hg => (simp only [go_sem, *] <;> rfl)); (case he => (intro hQz; (try simp only [wantB_t, wantB_f, Bool.and_eq_true, Bool.not_eq_true', Bool.not_true, Bool.not_false, and_true, true_and] at hQz); simp only [go_sem, *] <;> rfl)); (case hp => (intro hQz; (try simp only [wantB_t, wantB_f, Bool.and_eq_true, Bool.not_eq_true', Bool.or_eq_false_iff, decide_eq_true_eq, decide_eq_false_iff_not, beq_iff_eq, beq_eq_false_iff_ne, bne_iff_ne, bne_eq_false_iff_eq, Int.not_lt, Int.not_le, Int.ofNat_lt, Int.ofNat_le] at hQz); first | trivial)))
 | (apply st_c; (case hc => (simp only [go_sem, *] <;> rfl)); (case hl => (simp only [go_sem, *] <;> rfl)); (case hn => (simp only [go_sem, *] <;> rfl)); (case hp => first | exact c0 | (have hXz := c0; simp only [go_sem, *] at hXz; exact hXz)))
 | (apply st_c; (case hc => (simp only [go_sem, *] <;> rfl)); (case hl => (simp only [go_sem, *] <;> rfl)); (case hn => (simp only [go_sem, *] <;> rfl)); (case hp => first | exact c1 | (have hXz := c1; simp only [go_sem, *] at hXz; exact hXz)))
 | (apply st_mc; (case hop => rfl); (case hg => (simp only [go_sem, *] <;> rfl)); (case hc => (intro hQz; (try simp only [wantB_t, wantB_f, Bool.and_eq_true, Bool.not_eq_true', Bool.not_true, Bool.not_false, and_true, true_and] at hQz); simp only [go_sem, *] <;> rfl)); (case hl => (intro hQz; (try simp only [wantB_t, wantB_f, Bool.and_eq_true, Bool.not_eq_true', Bool.not_true, Bool.not_false, and_true, true_and] at hQz); simp only [go_sem, *] <;> rfl)); (case hn => (intro hQz; (try simp only [wantB_t, wantB_f, Bool.and_eq_true, Bool.not_eq_true', Bool.not_true, Bool.not_false, and_true, true_and] at hQz); simp only [go_sem, *] <;> rfl)); (case hp => intro hQz; first | exact side_ok _ | (have hXz := side_ok _; simp only [go_sem, *] at hXz; exact hXz)))
 | (apply st_c; (case hc => (simp only [go_sem, *] <;> rfl)); (case hl => (simp only [go_sem, *] <;> rfl)); (case hn => (simp only [go_sem, *] <;> rfl)); (case hp => first | exact side_ok _ | (have hXz := side_ok _; simp only [go_sem, *] at hXz; exact hXz)))
 | (refine Awp.ret ?_; try simp only [go_sem, *])
 | (refine Awp.skip ?_; try simp only [go_sem, *])
 | refine Awp.block ?_
 | (apply Awp.cond; (case hc => (simp only [go_sem, *] <;> rfl)); all_goals (intro hg; (try simp only [Bool.not_true, Bool.not_false, reduceCtorEq] at hg)))
 | refine Awp.seq ?_)
    all_goals repeat' (first | exact Lower.int (by first | rfl | (simp only [zeroSty, Bool.true_and, Bool.false_and, Bool.and_true, Bool.and_false, Bool.true_or, Bool.false_or, reduceIte, Bool.false_eq_true, *]; done) | (simp only [zeroSty, reduceIte, Bool.false_eq_true, *] <;> rfl) | (simp [zeroSty]; done) | (simp_all [zeroSty]; done) | omega) | exact Lower.str (by first | rfl | (simp only [zeroSty, Bool.true_and, Bool.false_and, Bool.and_true, Bool.and_false, Bool.true_or, Bool.false_or, reduceIte, Bool.false_eq_true, *]; done) | (simp only [zeroSty, reduceIte, Bool.false_eq_true, *] <;> rfl) | (simp [zeroSty]; done) | (simp_all [zeroSty]; done) | omega) | refine Lower.aggF ?_ | refine Lower.tupF ?_ | refine All2.cons ?_ ?_ | exact All2.nil)
  rw [if_neg (by simp)]
  have h2' := h2
  unfold fitR at h2'
  by_cases h3 : (128 : Int) ≤ l.length
  · rw [if_pos (by simpa using h3)]
    refine fn_pure Tryz.F30 (Nat.le_of_ble_eq_true rfl) ?_; unfold Tryz.ac30 AR AM AO
    repeat' (first
 | (apply Awp.sreg; (case hn => (simp only [List.length_cons, List.length_nil, Nat.reduceAdd] <;> rfl)))
 | (refine st_nil ?_)
 | (apply st_a; (case hc => rfl); (case he => (simp only [go_sem, *] <;> rfl)); (case hu => (simp only [updL_nil, updL_cons] <;> rfl)); (case hp => first | trivial))
 | (apply st_m; (case hc => rfl); (case hg => (simp only [go_sem, *] <;> rfl)); (case he => (intro hQz; (try simp only [wantB_t, wantB_f, Bool.and_eq_true, Bool.not_eq_true', Bool.not_true, Bool.not_false, and_true, true_and] at hQz); simp only [go_sem, *] <;> rfl)); (case hp => (intro hQz; (try simp only [wantB_t, wantB_f, Bool.and_eq_true, Bool.not_eq_true', Bool.or_eq_false_iff, decide_eq_true_eq, decide_eq_false_iff_not, beq_iff_eq, beq_eq_false_iff_ne, bne_iff_ne, bne_eq_false_iff_eq, Int.not_lt, Int.not_le, Int.ofNat_lt, Int.ofNat_le] at hQz); first | trivial)))
 | (apply st_c; (case hc => (simp only [go_sem, *] <;> rfl)); (case hl => (simp only [go_sem, *] <;> rfl)); (case hn => (simp only [go_sem, *] <;> rfl)); (case hp => first | exact c0 | (have hXz := c0; simp only [go_sem, *] at hXz; exact hXz)))
 | (apply st_c; (case hc => (simp only [go_sem, *] <;> rfl)); (case hl => (simp only [go_sem, *] <;> rfl)); (case hn => (simp only [go_sem, *] <;> rfl)); (case hp => first | exact c1 | (have hXz := c1; simp only [go_sem, *] at hXz; exact hXz)))
 | (apply st_mc; (case hop => rfl); (case hg => (simp only [go_sem, *] <;> rfl)); (case hc => (intro hQz; (try simp only [wantB_t, wantB_f, Bool.and_eq_true, Bool.not_eq_true', Bool.not_true, Bool.not_false, and_true, true_and] at hQz); simp only [go_sem, *] <;> rfl)); (case hl => (intro hQz; (try simp only [wantB_t, wantB_f, Bool.and_eq_true, Bool.not_eq_true', Bool.not_true, Bool.not_false, and_true, true_and] at hQz); simp only [go_sem, *] <;> rfl)); (case hn => (intro hQz; (try simp only [wantB_t, wantB_f, Bool.and_eq_true, Bool.not_eq_true', Bool.not_true, Bool.not_false, and_true, true_and] at hQz); simp only [go_sem, *] <;> rfl)); (case hp => intro hQz; first | exact side_ok _ | (have hXz := side_ok _; simp only [go_sem, *] at hXz; exact hXz)))
 | (apply st_c; (case hc => (simp only [go_sem, *] <;> rfl)); (case hl => (simp only [go_sem, *] <;> rfl)); (case hn => (simp only [go_sem, *] <;> rfl)); (case hp => first | exact side_ok _ | (have hXz := side_ok _; simp only [go_sem, *] at hXz; exact hXz)))
 | (refine Awp.ret ?_; try simp only [go_sem, *])
 | (refine Awp.skip ?_; try simp only [go_sem, *])
 | refine Awp.block ?_
 | (apply Awp.cond; (case hc => (simp only [go_sem, *] <;> rfl)); all_goals (intro hg; (try simp only [Bool.not_true, Bool.not_false, reduceCtorEq] at hg)))
 | refine Awp.seq ?_)
    all_goals repeat' (first | exact Lower.int (by first | rfl | (simp only [zeroSty, Bool.true_and, Bool.false_and, Bool.and_true, Bool.and_false, Bool.true_or, Bool.false_or, reduceIte, Bool.false_eq_true, *]; done) | (simp only [zeroSty, reduceIte, Bool.false_eq_true, *] <;> rfl) | (simp [zeroSty]; done) | (simp_all [zeroSty]; done) | omega) | exact Lower.str (by first | rfl | (simp only [zeroSty, Bool.true_and, Bool.false_and, Bool.and_true, Bool.and_false, Bool.true_or, Bool.false_or, reduceIte, Bool.false_eq_true, *]; done) | (simp only [zeroSty, reduceIte, Bool.false_eq_true, *] <;> rfl) | (simp [zeroSty]; done) | (simp_all [zeroSty]; done) | omega) | refine Lower.aggF ?_ | refine Lower.tupF ?_ | refine All2.cons ?_ ?_ | exact All2.nil)
  rw [if_neg (by simpa using h3)]
  refine fn_pure Tryz.F30 (Nat.le_of_ble_eq_true rfl) ?_; unfold Tryz.ac30 AR AM AO
  repeat' (first
 | (apply Awp.sreg; (case hn => (simp only [List.length_cons, List.length_nil, Nat.reduceAdd] <;> rfl)))
 | (refine st_nil ?_)
 | (apply st_a; (case hc => rfl); (case he => (simp only [go_sem, *] <;> rfl)); (case hu => (simp only [updL_nil, updL_cons] <;> rfl)); (case hp => first | trivial))
 | (apply st_m; (case hc => rfl); (case hg => (simp only [go_sem, *] <;> rfl)); (case he => (intro hQz; (try simp only [wantB_t, wantB_f, Bool.and_eq_true, Bool.not_eq_true', Bool.not_true, Bool.not_false, and_true, true_and] at hQz); simp only [go_sem, *] <;> rfl)); (case hp => (intro hQz; (try simp only [wantB_t, wantB_f, Bool.and_eq_true, Bool.not_eq_true', Bool.or_eq_false_iff, decide_eq_true_eq, decide_eq_false_iff_not, beq_iff_eq, beq_eq_false_iff_ne, bne_iff_ne, bne_eq_false_iff_eq, Int.not_lt, Int.not_le, Int.ofNat_lt, Int.ofNat_le] at hQz); first | trivial)))
 | (apply st_c; (case hc => (simp only [go_sem, *] <;> rfl)); (case hl => (simp only [go_sem, *] <;> rfl)); (case hn => (simp only [go_sem, *] <;> rfl)); (case hp => first | exact c0 | (have hXz := c0; simp only [go_sem, *] at hXz; exact hXz)))
 | (apply st_c; (case hc => (simp only [go_sem, *] <;> rfl)); (case hl => (simp only [go_sem, *] <;> rfl)); (case hn => (simp only [go_sem, *] <;> rfl)); (case hp => first | exact c1 | (have hXz := c1; simp only [go_sem, *] at hXz; exact hXz)))
 | (apply st_mc; (case hop => rfl); (case hg => (simp only [go_sem, *] <;> rfl)); (case hc => (intro hQz; (try simp only [wantB_t, wantB_f, Bool.and_eq_true, Bool.not_eq_true', Bool.not_true, Bool.not_false, and_true, true_and] at hQz); simp only [go_sem, *] <;> rfl)); (case hl => (intro hQz; (try simp only [wantB_t, wantB_f, Bool.and_eq_true, Bool.not_eq_true', Bool.not_true, Bool.not_false, and_true, true_and] at hQz); simp only [go_sem, *] <;> rfl)); (case hn => (intro hQz; (try simp only [wantB_t, wantB_f, Bool.and_eq_true, Bool.not_eq_true', Bool.not_true, Bool.not_false, and_true, true_and] at hQz); simp only [go_sem, *] <;> rfl)); (case hp => intro hQz; first | exact side_ok _ | (have hXz := side_ok _; simp only [go_sem, *] at hXz; exact hXz)))
 | (apply st_c; (case hc => (simp only [go_sem, *] <;> rfl)); (case hl => (simp only [go_sem, *] <;> rfl)); (case hn => (simp only [go_sem, *] <;> rfl)); (case hp => first | exact side_ok _ | (have hXz := side_ok _; simp only [go_sem, *] at hXz; exact hXz)))
 | (apply st_co; (case hc => (simp only [go_sem, *] <;> rfl)); (case hl => (simp only [go_sem, *] <;> rfl)); (case hn => (simp only [go_sem, *] <;> rfl)); (case hp => first | exact c2 | (have hXz := c2; simp only [go_sem, *] at hXz; exact hXz)))
 | (refine Awp.skip ?_; try simp only [go_sem, *])
 | refine Awp.block ?_
 | (apply Awp.cond; (case hc => (simp only [go_sem, *] <;> rfl)); all_goals (intro hg; (try simp only [Bool.not_true, Bool.not_false, reduceCtorEq] at hg)))
 | refine Awp.seq ?_)
  clear c0 c1 c2 h1 h2 h2' hC
  have hSl : (startsZ l x.a).length < 1000000 := by
    refine Nat.lt_of_le_of_lt (compact_len _) ?_
    rw [sortI_len]
    have := endsL_len l x.a
    omega
  obtain ⟨S, hS⟩ : ∃ S, startsZ l x.a = S := ⟨_, rfl⟩
  unfold fitS
  rw [hS] at hSl ⊢
  clear hS
  refine Awp.loop (fun q : Nat × (ByteArray × Int × Int) => q.1 ≤ S.length ∧ ∀ j, j < q.1 → bs.findSome? (tryB bs l x h (S.getD j 0)) = none) 200
    (fun q => mkS [(0, .sl (bys bs)), (1, .sl (stys l)), (3, .v (.int .i64 h)), (6, .bp 0 0), (8, .bp 1 0), (71, .own 2), (72, .v (.int .i64 S.length)), (73, .v (.int .i64 q.1))] [(0, .box (x.when q.2.1 q.2.2.1 q.2.2.2).cells), (1, .box boxZ), (2, .row (ints S) 1 3)]) (fun q => S.length - q.1) (0, (x.bay, x.a, x.b)) ⟨Nat.zero_le _, fun j hj => by simp at hj⟩ ?_ ?_
  · unfold boxZ Sty.when
    (apply Ghost.mk [(2, 53)] []; (case hdead => rfl); (case hinj => rfl); (case hV => (simp only [go_sem, *]) <;> (repeat' (first | refine And.intro ?_ ?_ | exact View.int (by first | rfl | omega | (simp; done) | (rw [wrap_i64] <;> (try simp only [Int.natCast_add]) <;> omega) | (simp [*]; done)) | exact .bp rfl (by decide) | exact .own rfl (by decide)))); (case hB => (simp only [go_sem, *]) <;> (repeat' (first | refine And.intro ?_ ?_ | exact ⟨_, rfl, BView.boxF rfl⟩ | exact ⟨_, rfl, .rowE (by first | rfl | omega | (simp; done) | (rw [wrap_i64] <;> (try simp only [Int.natCast_add]) <;> omega) | (simp [*]; done))⟩))))
  · intro ⟨j, ⟨n0, a0, b0⟩⟩ ⟨hj, hno⟩
    dsimp only at hj hno
    by_cases hlt : j < S.length
    · have hlt' : (j : Int) < S.length := by omega
      have hat := ints_at S j hlt
      obtain ⟨t, ht⟩ : ∃ t, S.getD j 0 = t := ⟨_, rfl⟩
      rw [ht] at hat
      unfold boxZ Sty.when
      repeat' (first
 | (apply Awp.sreg; (case hn => (simp only [List.length_cons, List.length_nil, Nat.reduceAdd] <;> rfl)))
 | (refine st_nil ?_)
 | (apply st_a; (case hc => rfl); (case he => (simp only [go_sem, *] <;> rfl)); (case hu => (simp only [updL_nil, updL_cons] <;> rfl)); (case hp => first | trivial | omega))
 | (refine Awp.skip ?_; try simp only [go_sem, *])
 | refine Awp.block ?_
 | (apply Awp.cond; (case hc => (simp only [go_sem, *] <;> rfl)); all_goals (intro hg; (try simp only [Bool.not_true, Bool.not_false, reduceCtorEq] at hg)))
 | refine Awp.seq ?_)
      refine Awp.loop (fun q : Nat × (ByteArray × Int × Int) => q.1 ≤ bs.length ∧ ∀ i, i < q.1 → tryB bs l x h t (bs.getD i zeroBy) = none) 300
        (fun q => mkS [(0, .sl (bys bs)), (1, .sl (stys l)), (3, .v (.int .i64 h)), (6, .bp 0 0), (8, .bp 1 0), (12, .v (.int .i64 t)), (71, .own 2), (72, .v (.int .i64 S.length)), (73, .v (.int .i64 j)), (77, .sl (bys bs)), (78, .v (.int .i64 bs.length)), (79, .v (.int .i64 q.1))] [(0, .box (x.when q.2.1 q.2.2.1 q.2.2.2).cells), (1, .box boxZ), (2, .row (ints S) 1 3)]) (fun q => bs.length - q.1) (0, (n0, a0, b0)) ⟨Nat.zero_le _, fun j hj => by simp at hj⟩ ?_ ?_
      · unfold boxZ Sty.when
        (apply Ghost.mk [] []; (case hdead => rfl); (case hinj => rfl); (case hV => (simp only [go_sem, *]) <;> (repeat' (first | refine And.intro ?_ ?_ | exact View.int (by first | rfl | omega | (simp; done) | (rw [wrap_i64] <;> (try simp only [Int.natCast_add]) <;> omega) | (simp [*]; done)) | exact .bp rfl (by decide) | exact .own rfl (by decide)))); (case hB => (simp only [go_sem, *]) <;> (repeat' (first | refine And.intro ?_ ?_ | exact ⟨_, rfl, BView.boxF rfl⟩ | exact ⟨_, rfl, .rowE (by first | rfl | omega | (simp; done) | (rw [wrap_i64] <;> (try simp only [Int.natCast_add]) <;> omega) | (simp [*]; done))⟩))))
      · intro ⟨k, ⟨n1, a1, b1⟩⟩ ⟨hk, hnk⟩
        dsimp only at hk hnk
        by_cases hlk : k < bs.length
        · have hlk' : (k : Int) < bs.length := by omega
          have hatk := bys_at bs k hlk
          have hz : ((bs.getD k zeroBy).cells).length = 3 := rfl
          obtain ⟨q, hq⟩ : ∃ q, bs.getD k zeroBy = q := ⟨_, rfl⟩
          rw [hq] at hatk hz
          have c3 := spot_ok bs l (x.when q.nm t (IntKind.i64.wrap (t + h))) (by omega) hl
          have hty : tryB bs l x h t q = if (spotE bs l (x.when q.nm t (IntKind.i64.wrap (t + h)))).2 then some (spotE bs l (x.when q.nm t (IntKind.i64.wrap (t + h)))).1 else none := rfl
          have hnx : tryB bs l x h t q = none → ∀ i, i < k + 1 → tryB bs l x h t (bs.getD i zeroBy) = none := fun hp => ltSucc hnk (by rw [hq]; exact hp)
          have hyes : ∀ {y : Sty}, tryB bs l x h t q = some y → S.findSome? (fun t => bs.findSome? (tryB bs l x h t)) = some y := fun {y} hp => by
            refine fs_hit (d := 0) hlt hno ?_
            rw [ht]
            exact fs_hit hlk hnk (by rw [hq]; exact hp)
          clear hno hnk hq ht
          generalize hsp : spotE bs l (x.when q.nm t (IntKind.i64.wrap (t + h))) = sp at *
          obtain ⟨y, f⟩ := sp
          dsimp only at hty c3
          clear hsp
          cases f
          · have hn2 := hnx (by rw [hty]; rfl)
            clear hnx hyes hty
            unfold boxZ Sty.when at *
            repeat' (first
 | (apply Awp.sreg; (case hn => (simp only [List.length_cons, List.length_nil, Nat.reduceAdd] <;> rfl)))
 | (refine st_nil ?_)
 | (apply st_a; (case hc => rfl); (case he => (simp only [go_sem, *] <;> rfl)); (case hu => (simp only [updL_nil, updL_cons] <;> rfl)); (case hp => first | trivial | omega))
 | (apply st_c; (case hc => (simp only [go_sem, *] <;> rfl)); (case hl => (simp only [go_sem, *] <;> rfl)); (case hn => (simp only [go_sem, *] <;> rfl)); (case hp => first | exact c3 | (have hXz := c3; simp only [go_sem, *] at hXz; exact hXz)))
 | (apply Awp.reg; (case hn => (simp only [List.length_cons, List.length_nil, Nat.reduceAdd] <;> rfl)))
 | (refine Awp.skip ?_; try simp only [go_sem, *])
 | refine Awp.block ?_
 | (apply Awp.cond; (case hc => (simp only [go_sem, *] <;> rfl)); all_goals (intro hg; (try simp only [Bool.not_true, Bool.not_false, reduceCtorEq] at hg)))
 | refine Awp.seq ?_)
            refine ⟨(k + 1, (q.nm, t, IntKind.i64.wrap (t + h))), ⟨by dsimp only; omega, hn2⟩, by dsimp only; omega, ?_⟩
            (apply Ghost.mk [] []; (case hdead => rfl); (case hinj => rfl); (case hV => (simp only [go_sem, *]) <;> (repeat' (first | refine And.intro ?_ ?_ | exact View.int (by first | rfl | omega | (simp; done) | (rw [wrap_i64] <;> (try simp only [Int.natCast_add]) <;> omega) | (simp [*]; done)) | exact .bp rfl (by decide) | exact .own rfl (by decide)))); (case hB => (simp only [go_sem, *]) <;> (repeat' (first | refine And.intro ?_ ?_ | exact ⟨_, rfl, BView.boxF rfl⟩ | exact ⟨_, rfl, .rowE (by first | rfl | omega | (simp; done) | (rw [wrap_i64] <;> (try simp only [Int.natCast_add]) <;> omega) | (simp [*]; done))⟩))))
          · have hy2 := hyes (y := y) (by rw [hty]; rfl)
            rw [hy2]
            clear hnx hyes hty hy2
            unfold boxZ Sty.when at *
            repeat' (first
 | (apply Awp.sreg; (case hn => (simp only [List.length_cons, List.length_nil, Nat.reduceAdd] <;> rfl)))
 | (refine st_nil ?_)
 | (apply st_a; (case hc => rfl); (case he => (simp only [go_sem, *] <;> rfl)); (case hu => (simp only [updL_nil, updL_cons] <;> rfl)); (case hp => first | trivial | omega))
 | (apply st_c; (case hc => (simp only [go_sem, *] <;> rfl)); (case hl => (simp only [go_sem, *] <;> rfl)); (case hn => (simp only [go_sem, *] <;> rfl)); (case hp => first | exact c3 | (have hXz := c3; simp only [go_sem, *] at hXz; exact hXz)))
 | (refine Awp.ret ?_; try simp only [go_sem, *])
 | (refine Awp.skip ?_; try simp only [go_sem, *])
 | refine Awp.block ?_
 | (apply Awp.cond; (case hc => (simp only [go_sem, *] <;> rfl)); all_goals (intro hg; (try simp only [Bool.not_true, Bool.not_false, reduceCtorEq] at hg)))
 | refine Awp.seq ?_)
            all_goals repeat' (first | exact Lower.int (by first | rfl | (simp only [true_and, Bool.true_and, Bool.false_and, Bool.and_true, Bool.and_false, Bool.true_or, Bool.false_or, reduceIte, Bool.false_eq_true, *]; done) | (simp only [true_and, reduceIte, Bool.false_eq_true, *] <;> rfl) | (simp [true_and]; done) | (simp_all [true_and]; done) | omega) | exact Lower.str (by first | rfl | (simp only [true_and, Bool.true_and, Bool.false_and, Bool.and_true, Bool.and_false, Bool.true_or, Bool.false_or, reduceIte, Bool.false_eq_true, *]; done) | (simp only [true_and, reduceIte, Bool.false_eq_true, *] <;> rfl) | (simp [true_and]; done) | (simp_all [true_and]; done) | omega) | refine Lower.aggF ?_ | refine Lower.tupF ?_ | refine All2.cons ?_ ?_ | exact All2.nil)
        · have hlk' : ¬ (k : Int) < bs.length := by omega
          have hn2 := ltSucc hno (by rw [ht]; exact fs_no (Nat.le_of_not_lt hlk) hnk)
          clear hno hnk hat
          unfold boxZ Sty.when
          repeat' (first
 | (apply Awp.sreg; (case hn => (simp only [List.length_cons, List.length_nil, Nat.reduceAdd] <;> rfl)))
 | (refine st_nil ?_)
 | (apply st_a; (case hc => rfl); (case he => (simp only [go_sem, *] <;> rfl)); (case hu => (simp only [updL_nil, updL_cons] <;> rfl)); (case hp => first | trivial))
 | (apply Awp.reg; (case hn => (simp only [List.length_cons, List.length_nil, Nat.reduceAdd] <;> rfl)))
 | (refine Awp.exit ?_; try simp only [go_sem, *])
 | (apply Awp.cond; (case hc => (simp only [go_sem, *] <;> rfl)); all_goals (intro hg; (try simp only [Bool.not_true, Bool.not_false, reduceCtorEq] at hg)))
 | refine Awp.seq ?_)
          refine ⟨(j + 1, (n1, a1, b1)), ⟨by dsimp only; omega, hn2⟩, by dsimp only; omega, ?_⟩
          (apply Ghost.mk [] []; (case hdead => rfl); (case hinj => rfl); (case hV => (simp only [go_sem, *]) <;> (repeat' (first | refine And.intro ?_ ?_ | exact View.int (by first | rfl | omega | (simp; done) | (rw [wrap_i64] <;> (try simp only [Int.natCast_add]) <;> omega) | (simp [*]; done)) | exact .bp rfl (by decide) | exact .own rfl (by decide)))); (case hB => (simp only [go_sem, *]) <;> (repeat' (first | refine And.intro ?_ ?_ | exact ⟨_, rfl, BView.boxF rfl⟩ | exact ⟨_, rfl, .rowE (by first | rfl | omega | (simp; done) | (rw [wrap_i64] <;> (try simp only [Int.natCast_add]) <;> omega) | (simp [*]; done))⟩))))
    · have hlt' : ¬ (j : Int) < S.length := by omega
      have hn2 : S.findSome? (fun t => bs.findSome? (tryB bs l x h t)) = none := fs_no (d := 0) (Nat.le_of_not_lt hlt) hno
      rw [hn2]
      clear hno hn2
      unfold boxZ Sty.when
      repeat' (first
 | (apply Awp.sreg; (case hn => (simp only [List.length_cons, List.length_nil, Nat.reduceAdd] <;> rfl)))
 | (refine st_nil ?_)
 | (apply st_a; (case hc => rfl); (case he => (simp only [go_sem, *] <;> rfl)); (case hu => (simp only [updL_nil, updL_cons] <;> rfl)); (case hp => first | trivial))
 | (refine Awp.ret ?_; try simp only [go_sem, *])
 | (refine Awp.exit ?_; try simp only [go_sem, *])
 | (apply Awp.cond; (case hc => (simp only [go_sem, *] <;> rfl)); all_goals (intro hg; (try simp only [Bool.not_true, Bool.not_false, reduceCtorEq] at hg)))
 | refine Awp.seq ?_)
      all_goals repeat' (first | exact Lower.int (by first | rfl | (simp only [zeroSty, Bool.true_and, Bool.false_and, Bool.and_true, Bool.and_false, Bool.true_or, Bool.false_or, reduceIte, Bool.false_eq_true, *]; done) | (simp only [zeroSty, reduceIte, Bool.false_eq_true, *] <;> rfl) | (simp [zeroSty]; done) | (simp_all [zeroSty]; done) | omega) | exact Lower.str (by first | rfl | (simp only [zeroSty, Bool.true_and, Bool.false_and, Bool.and_true, Bool.and_false, Bool.true_or, Bool.false_or, reduceIte, Bool.false_eq_true, *]; done) | (simp only [zeroSty, reduceIte, Bool.false_eq_true, *] <;> rfl) | (simp [zeroSty]; done) | (simp_all [zeroSty]; done) | omega) | refine Lower.aggF ?_ | refine Lower.tupF ?_ | refine All2.cons ?_ ?_ | exact All2.nil)
end Go.Proofs
namespace Go.Proofs
open Go Go.Ab
set_option maxHeartbeats 8000000
set_option maxRecDepth 100000
attribute [local irreducible] Awp aops aopsL Go.Ab.Pure PureOwn PureTwoM
def isN (s : ByteArray) (q : Wk) : Bool := q.id.toList == s.toList
def findW (l : List Wk) (s : ByteArray) : Int := idxF (isN s) l
theorem findW_lt {l : List Wk} {s : ByteArray} : findW l s < 0 ↔ hasK (ids l) s = false := by
  unfold findW hasK ids
  rw [List.any_eq_false]
  constructor
  · intro h x hx
    obtain ⟨q, hq, rfl⟩ := List.mem_map.1 hx
    intro e
    unfold idxF at h
    split at h
    · omega
    · rename_i h2
      have := List.findIdx_eq_length.1 (Nat.le_antisymm List.findIdx_le_length (Nat.le_of_not_lt h2)) q hq
      unfold isN at this
      rw [beq_eq_false_iff_ne] at this
      have e : s.toList = q.id.toList := by simpa using e
      exact this e.symm
  · intro h
    have e : l.findIdx (isN s) = l.length := List.findIdx_eq_length.2 fun q hq => by
      have := h q.id (List.mem_map.2 ⟨q, hq, rfl⟩)
      unfold isN
      rw [beq_eq_false_iff_ne]
      intro e; exact this (by simp [e])
    unfold idxF
    rw [if_neg (by omega)]; decide
def hasD (done : List ByteArray) (s : ByteArray) : Bool := done.any (fun x => x.toList == s.toList)
def readyR (af done : List ByteArray) : Bool := af.all (hasD done)
def takB (l : List Wk) (T : List Bool) (D : List ByteArray) (X : Int) (i : Nat) : Bool := !(T.getD i false) && readyR (l.getD i zeroWk).af D && (decide (X < 0) || strLess (l.getD i zeroWk).id (l.getD X.toNat zeroWk).id)
def nextF (l : List Wk) (T : List Bool) (D : List ByteArray) : Nat → Int
  | 0 => -1
  | i + 1 => if takB l T D (nextF l T D i) i then i else nextF l T D i
def rordG (l : List Wk) : Nat → List Bool → List ByteArray → List ByteArray × Int
  | 0, _, D => (D, 0)
  | n + 1, T, D => if nextF l T D l.length < 0 then ([], 20) else rordG l n (T.set (nextF l T D l.length).toNat true) (D ++ [(l.getD (nextF l T D l.length).toNat zeroWk).id])
structure Pn where
  K : List ByteArray
  V : List Int
  out : List Sty
def wantS (q : Wk) (t : Int) : Sty := ⟨q.id, ⟨#[]⟩, 0, 0, q.len, q.wid, t, 0⟩
def planG (bs : List By) : List Wk → Pn → List Sty × Int
  | [], p => (p.out, 0)
  | q :: S, p => if (fitE bs p.out (wantS q (frstM p.K p.V q.af)) q.hr).2 ≠ 0 then ([], 18)
    else planG bs S ⟨pK p.K q.id, pV p.K p.V q.id (fitE bs p.out (wantS q (frstM p.K p.V q.af)) q.hr).1.b, p.out ++ [(fitE bs p.out (wantS q (frstM p.K p.V q.af)) q.hr).1]⟩
def planE (l : List Wk) (bs : List By) : List Sty × Int := if (ordE l).2 ≠ 0 then ([], (ordE l).2) else if checkE bs [] ≠ 0 then ([], checkE bs []) else planG bs (ordE l).1 ⟨[], [], []⟩
def pl1 (bs : List By) (S : List Wk) (i : Nat) (p : Pn) : AState := mkS [(1, .sl (bys bs)), (32, .sl (wks S)), (33, .v (.int .i64 S.length)), (34, .v (.int .i64 i)), (9, .mapv 0), (10, .own 1)] [(0, .map p.K (iav p.V)), (1, .row (stys p.out) 8 48)]
def pl2 (bs : List By) (S : List Wk) (i : Nat) (p : Pn) (q : Wk) (k : Nat) : AState := mkS [(1, .sl (bys bs)), (32, .sl (wks S)), (33, .v (.int .i64 S.length)), (34, .v (.int .i64 i)), (9, .mapv 0), (10, .own 1), (12, .bp 2 0), (39, .sl (strs q.af)), (40, .v (.int .i64 q.af.length)), (41, .v (.int .i64 k)), (13, .v (.int .i64 (frstM p.K p.V (q.af.take k))))] [(0, .map p.K (iav p.V)), (1, .row (stys p.out) 8 48), (2, .box q.cells)]
theorem plan_ok (l : List Wk) (bs : List By) (hl : l.length < 1000) (hb : bs.length < 90000) (ha : ∀ q ∈ l, q.af.length < 1000000) : Pure Tryz.prog 17 [.sl (wks l), .sl (bys bs)] (.tup [.sl (stys (planE l bs).1), .v (.int .i64 (planE l bs).2)]) := by
  have c0 := ordered_ok l (by omega) ha
  have c1 := check_ok bs [] (by omega) (by simp)
  have h1 := ordE_len l
  have h2 := ordE_err l
  have h3 : ∀ q ∈ (ordE l).1, q.af.length < 1000000 := fun q hq => ha q (ordE_mem l q hq)
  unfold planE
  generalize ordE l = R at *
  obtain ⟨S, e⟩ := R
  simp only at h1 h2 h3 c0 ⊢
  clear ha
  by_cases he : e = 0
  · subst he
    clear h2
    rw [if_neg (by simp)]
    by_cases hc : checkE bs [] = 0
    · rw [if_neg (by simp [hc])]
      rw [hc] at c1
      generalize hR : planG bs S ⟨[], [], []⟩ = R
      clear hc
      have hnil : stys [] = [] := rfl
      rw [hnil] at c1
      refine fn_pure Tryz.F17 (Nat.le_of_ble_eq_true rfl) ?_; unfold Tryz.ac17 AR AM AO
      repeat' (first
 | (apply Awp.sreg; (case hn => (simp only [List.length_cons, List.length_nil, Nat.reduceAdd] <;> rfl)))
 | (refine st_nil ?_)
 | (apply st_a; (case hc => rfl); (case he => (simp only [go_sem, *] <;> rfl)); (case hu => (simp only [updL_nil, updL_cons] <;> rfl)); (case hp => first | trivial))
 | (apply st_c; (case hc => (simp only [go_sem, *] <;> rfl)); (case hl => (simp only [go_sem, *] <;> rfl)); (case hn => (simp only [go_sem, *] <;> rfl)); (case hp => first | exact c0 | (have hXz := c0; simp only [go_sem, *] at hXz; exact hXz)))
 | (apply st_c; (case hc => (simp only [go_sem, *] <;> rfl)); (case hl => (simp only [go_sem, *] <;> rfl)); (case hn => (simp only [go_sem, *] <;> rfl)); (case hp => first | exact c1 | (have hXz := c1; simp only [go_sem, *] at hXz; exact hXz)))
 | (refine Awp.skip ?_; try simp only [go_sem, *])
 | refine Awp.block ?_
 | (apply Awp.cond; (case hc => (simp only [go_sem, *] <;> rfl)); all_goals (intro hg; (try simp only [Bool.not_true, Bool.not_false, reduceCtorEq] at hg)))
 | refine Awp.seq ?_)
      refine Awp.loop (fun x : Nat × Pn => x.1 ≤ S.length ∧ x.2.V.length = x.2.K.length ∧ x.2.out.length = x.1 ∧ planG bs (S.drop x.1) x.2 = R) 100 (fun x => pl1 bs S x.1 x.2) (fun x => S.length - x.1) (0, ⟨[], [], []⟩) ⟨Nat.zero_le _, rfl, rfl, hR⟩ ?_ ?_
      · refine Ghost.trans (Ghost.name 10 8 48 rfl (by decide)) ?_
        unfold pl1
        clear h3 hR
        have hiv : iav [] = [] := rfl
        simp only [hiv, hnil]
        (apply Ghost.mk [(0, 16), (1, 22)] []; (case hdead => rfl); (case hinj => rfl); (case hV => (simp only [go_sem, *]) <;> (repeat' (first | refine And.intro ?_ ?_ | exact View.int (by first | rfl | omega | (simp; done) | (rw [wrap_i64] <;> (try simp only [Int.natCast_add]) <;> omega) | (simp [*]; done)) | exact .own rfl (by decide) | exact .mapv rfl (by decide)))); (case hB => (simp only [go_sem, *]) <;> (repeat' (first | refine And.intro ?_ ?_ | exact ⟨_, rfl, .rowE (by first | rfl | omega | (simp; done) | (rw [wrap_i64] <;> (try simp only [Int.natCast_add]) <;> omega) | (simp [*]; done))⟩ | exact ⟨_, rfl, BView.mapE (by first | rfl | omega | (simp; done) | (rw [wrap_i64] <;> (try simp only [Int.natCast_add]) <;> omega) | (simp [*]; done)) (by first | rfl | omega | (simp; done) | (rw [wrap_i64] <;> (try simp only [Int.natCast_add]) <;> omega) | (simp [*]; done))⟩))))
      · intro ⟨i, p⟩ ⟨hi, hp, ho, hg⟩
        simp only at hi hp ho hg ⊢
        clear hR c0 c1
        by_cases hlt : i < S.length
        · have hlt' : (i : Int) < S.length := by omega
          have hat := wks_at S i hlt
          have hz : ((S.getD i zeroWk).cells).length = 5 := rfl
          have hal := h3 _ (getD_mem zeroWk hlt)
          have hdr : S.drop i = S.getD i zeroWk :: S.drop (i + 1) := by
            rw [List.drop_eq_getElem_cons hlt]
            simp [List.getD_eq_getElem?_getD, hlt]
          rw [hdr] at hg
          clear h3 hdr
          generalize S.getD i zeroWk = q at *
          have hstep : Hid (R = if (fitE bs p.out (wantS q (frstM p.K p.V q.af)) q.hr).2 ≠ 0 then ([], 18) else planG bs (S.drop (i + 1)) ⟨pK p.K q.id, pV p.K p.V q.id (fitE bs p.out (wantS q (frstM p.K p.V q.af)) q.hr).1.b, p.out ++ [(fitE bs p.out (wantS q (frstM p.K p.V q.af)) q.hr).1]⟩) := hg.symm
          clear hg
          unfold pl1
          repeat' (first
 | (apply Awp.sreg; (case hn => (simp only [List.length_cons, List.length_nil, Nat.reduceAdd] <;> rfl)))
 | (refine st_nil ?_)
 | (apply st_a; (case hc => rfl); (case he => (simp only [go_sem, *] <;> rfl)); (case hu => (simp only [updL_nil, updL_cons] <;> rfl)); (case hp => first | trivial | omega))
 | (refine Awp.skip ?_; try simp only [go_sem, *])
 | refine Awp.block ?_
 | (apply Awp.cond; (case hc => (simp only [go_sem, *] <;> rfl)); all_goals (intro hg; (try simp only [Bool.not_true, Bool.not_false, reduceCtorEq] at hg)))
 | refine Awp.seq ?_)
          refine Awp.loop (fun k : Nat => k ≤ q.af.length) 200 (fun k => pl2 bs S i p q k) (fun k => q.af.length - k) 0 (Nat.zero_le _) ?_ ?_
          · have e1 : frstM p.K p.V (q.af.take 0) = 0 := rfl
            unfold pl2
            rw [e1]
            (apply Ghost.mk [(0, 0), (2, 103)] []; (case hdead => rfl); (case hinj => rfl); (case hV => (simp only [go_sem, *]) <;> (repeat' (first | refine And.intro ?_ ?_ | exact View.int (by first | rfl | omega | (simp; done) | (rw [wrap_i64] <;> (try simp only [Int.natCast_add]) <;> omega) | (simp [*]; done)) | exact .bp rfl (by decide) | exact .own rfl (by decide) | exact .mapv rfl (by decide)))); (case hB => (simp only [go_sem, *]) <;> (repeat' (first | refine And.intro ?_ ?_ | exact ⟨_, rfl, BView.boxF rfl⟩ | exact ⟨_, rfl, .rowE (by first | rfl | omega | (simp; done) | (rw [wrap_i64] <;> (try simp only [Int.natCast_add]) <;> omega) | (simp [*]; done))⟩ | exact ⟨_, rfl, BView.mapE (by first | rfl | omega | (simp; done) | (rw [wrap_i64] <;> (try simp only [Int.natCast_add]) <;> omega) | (simp [*]; done)) (by first | rfl | omega | (simp; done) | (rw [wrap_i64] <;> (try simp only [Int.natCast_add]) <;> omega) | (simp [*]; done))⟩))))
          · intro k hk
            by_cases hkt : k < q.af.length
            · have hkt' : (k : Int) < q.af.length := by omega
              have hsat := strs_at q.af k hkt
              have hf := frstM_step p.K p.V q.af k hkt
              have hg := getM_eq hp (q.af.getD k ⟨#[]⟩)
              unfold imax at hf
              clear hstep
              unfold pl2
              repeat' (first
 | (apply Awp.sreg; (case hn => (simp only [List.length_cons, List.length_nil, Nat.reduceAdd] <;> rfl)))
 | (refine st_nil ?_)
 | (apply st_a; (case hc => rfl); (case he => (simp only [go_sem, *] <;> rfl)); (case hu => (simp only [updL_nil, updL_cons] <;> rfl)); (case hp => first | trivial | omega))
 | (apply Awp.reg; (case hn => (simp only [List.length_cons, List.length_nil, Nat.reduceAdd] <;> rfl)))
 | (refine Awp.skip ?_; try simp only [go_sem, *])
 | refine Awp.block ?_
 | (apply Awp.cond; (case hc => (simp only [go_sem, *] <;> rfl)); all_goals (intro hg; (try simp only [Bool.not_true, Bool.not_false, reduceCtorEq] at hg)))
 | refine Awp.seq ?_)
              refine ⟨k + 1, by omega, by omega, ?_⟩
              (apply Ghost.mk [] []; (case hdead => rfl); (case hinj => rfl); (case hV => (simp only [go_sem, *]) <;> (repeat' (first | refine And.intro ?_ ?_ | exact View.int (by first | rfl | omega | (simp; done) | (rw [wrap_i64] <;> (try simp only [Int.natCast_add]) <;> omega) | (simp [*]; done)) | exact .bp rfl (by decide) | exact .own rfl (by decide) | exact .mapv rfl (by decide)))); (case hB => (simp only [go_sem, *]) <;> (repeat' (first | refine And.intro ?_ ?_ | exact ⟨_, rfl, BView.boxF rfl⟩ | exact ⟨_, rfl, .rowE (by first | rfl | omega | (simp; done) | (rw [wrap_i64] <;> (try simp only [Int.natCast_add]) <;> omega) | (simp [*]; done))⟩ | exact ⟨_, rfl, BView.mapE (by first | rfl | omega | (simp; done) | (rw [wrap_i64] <;> (try simp only [Int.natCast_add]) <;> omega) | (simp [*]; done)) (by first | rfl | omega | (simp; done) | (rw [wrap_i64] <;> (try simp only [Int.natCast_add]) <;> omega) | (simp [*]; done))⟩))))
            · have hkt' : ¬ (k : Int) < q.af.length := by omega
              have e1 : q.af.take k = q.af := List.take_of_length_le (by omega)
              unfold pl2
              rw [e1]
              have c2 := fit_ok bs p.out (wantS q (frstM p.K p.V q.af)) q.hr hb (by omega)
              unfold wantS at c2
              unfold Hid wantS at hstep
              generalize fitE bs p.out ⟨q.id, ⟨#[]⟩, 0, 0, q.len, q.wid, frstM p.K p.V q.af, 0⟩ q.hr = F at *
              obtain ⟨x, e⟩ := F
              simp only at hstep c2
              by_cases he : e = 0
              · subst he
                rw [if_neg (by simp)] at hstep
                have hpm := putM_eq p.K p.V q.id x.b
                have hpk := pK_eq p.K q.id
                have hsn : stys p.out ++ [x.cells] = stys (p.out ++ [x]) := by simp [stys]
                simp only [Sty.cells] at hsn
                have hfin : Hid (i + 1 ≤ S.length ∧ (pV p.K p.V q.id x.b).length = (pK p.K q.id).length ∧ (p.out ++ [x]).length = i + 1 ∧ planG bs (S.drop (i + 1)) ⟨pK p.K q.id, pV p.K p.V q.id x.b, p.out ++ [x]⟩ = R) :=
                  ⟨by omega, pV_len _ _ _ _ hp, by rw [List.length_append, List.length_singleton]; omega, hstep.symm⟩
                clear hstep e1
                repeat' (first
 | (apply Awp.sreg; (case hn => (simp only [List.length_cons, List.length_nil, Nat.reduceAdd] <;> rfl)))
 | (refine st_nil ?_)
 | (apply st_a; (case hc => rfl); (case he => (simp only [go_sem, *] <;> rfl)); (case hu => (simp only [updL_nil, updL_cons] <;> rfl)); (case hp => first | trivial | (simp; done) | (simp; omega)))
 | (apply st_cd; (case hc => (simp only [go_sem, *] <;> rfl)); (case hl => (simp only [go_sem, *] <;> rfl)); (case hn => (simp only [go_sem, *] <;> rfl)); (case hp => first | exact c2 | (have hXz := c2; simp only [go_sem, *] at hXz; exact hXz)); (case hd => first | exact .v _ | exact .any | exact .nils | (repeat' (first | exact Dry.v _ | exact Dry.any | exact Dry.nils | exact Dry.slE | refine Dry.agg ?_ | refine Dry.tup ?_ | (refine List.forall_mem_cons.2 (And.intro ?_ ?_)) | (intro cQ hQ; cases hQ; done)))); (case hm => first | decide | (simp; done)))
 | (apply Awp.reg; (case hn => (simp only [List.length_cons, List.length_nil, Nat.reduceAdd] <;> rfl)))
 | (refine Awp.skip ?_; try simp only [go_sem, *])
 | (refine Awp.exit ?_; try simp only [go_sem, *])
 | (apply Awp.cond; (case hc => (simp only [go_sem, *] <;> rfl)); all_goals (intro hg; (try simp only [Bool.not_true, Bool.not_false, reduceCtorEq] at hg)))
 | refine Awp.seq ?_)
                refine ⟨(i + 1, ⟨pK p.K q.id, pV p.K p.V q.id x.b, p.out ++ [x]⟩), hfin, by simp only; omega, ?_⟩
                clear hfin
                simp only
                (apply Ghost.mk [(0, 0), (1, 235)] []; (case hdead => rfl); (case hinj => rfl); (case hV => (simp only [go_sem, *]) <;> (repeat' (first | refine And.intro ?_ ?_ | exact View.int (by first | rfl | omega | (simp; done) | (rw [wrap_i64] <;> (try simp only [Int.natCast_add]) <;> omega) | (simp [*]; done)) | exact .own rfl (by decide) | exact .mapv rfl (by decide)))); (case hB => (simp only [go_sem, *]) <;> (repeat' (first | refine And.intro ?_ ?_ | exact ⟨_, rfl, .rowE (by first | rfl | omega | (simp; done) | (rw [wrap_i64] <;> (try simp only [Int.natCast_add]) <;> omega) | (simp [*]; done))⟩ | exact ⟨_, rfl, BView.mapE (by first | rfl | omega | (simp; done) | (rw [wrap_i64] <;> (try simp only [Int.natCast_add]) <;> omega) | (simp [*]; done)) (by first | rfl | omega | (simp; done) | (rw [wrap_i64] <;> (try simp only [Int.natCast_add]) <;> omega) | (simp [*]; done))⟩))))
              · have he' : (e != 0) = true := by simpa using he
                rw [if_pos he] at hstep
                rw [hstep]
                clear hstep e1
                repeat' (first
 | (apply Awp.sreg; (case hn => (simp only [List.length_cons, List.length_nil, Nat.reduceAdd] <;> rfl)))
 | (refine st_nil ?_)
 | (apply st_a; (case hc => rfl); (case he => (simp only [go_sem, *] <;> rfl)); (case hu => (simp only [updL_nil, updL_cons] <;> rfl)); (case hp => first | trivial))
 | (apply st_cd; (case hc => (simp only [go_sem, *] <;> rfl)); (case hl => (simp only [go_sem, *] <;> rfl)); (case hn => (simp only [go_sem, *] <;> rfl)); (case hp => first | exact c2 | (have hXz := c2; simp only [go_sem, *] at hXz; exact hXz)); (case hd => first | exact .v _ | exact .any | exact .nils | (repeat' (first | exact Dry.v _ | exact Dry.any | exact Dry.nils | exact Dry.slE | refine Dry.agg ?_ | refine Dry.tup ?_ | (refine List.forall_mem_cons.2 (And.intro ?_ ?_)) | (intro cQ hQ; cases hQ; done)))); (case hm => first | decide | (simp; done)))
 | (refine Awp.ret ?_; try simp only [go_sem, *])
 | (refine Awp.exit ?_; try simp only [go_sem, *])
 | (apply Awp.cond; (case hc => (simp only [go_sem, *] <;> rfl)); all_goals (intro hg; (try simp only [Bool.not_true, Bool.not_false, reduceCtorEq] at hg)))
 | refine Awp.seq ?_)
                all_goals repeat' (first | exact Lower.int (by first | rfl | (simp only [true_and, Bool.true_and, Bool.false_and, Bool.and_true, Bool.and_false, Bool.true_or, Bool.false_or, reduceIte, Bool.false_eq_true, *]; done) | (simp only [true_and, reduceIte, Bool.false_eq_true, *] <;> rfl) | (simp [true_and]; done) | (simp_all [true_and]; done) | omega) | exact Lower.nilE (by first | rfl | (simp only [true_and, Bool.true_and, Bool.false_and, Bool.and_true, Bool.and_false, Bool.true_or, Bool.false_or, reduceIte, Bool.false_eq_true, *]; done) | (simp only [true_and, reduceIte, Bool.false_eq_true, *] <;> rfl) | (simp [true_and]; done) | (simp_all [true_and]; done) | omega) | refine Lower.tupF ?_ | refine All2.cons ?_ ?_ | exact All2.nil)
        · have hlt' : ¬ (i : Int) < S.length := by omega
          have e1 : S.drop i = [] := List.drop_eq_nil_of_le (by omega)
          rw [e1] at hg
          have hR2 : R = (p.out, 0) := hg.symm
          rw [hR2]
          clear hg hR2 e1 h3
          unfold pl1
          repeat' (first
 | (apply Awp.sreg; (case hn => (simp only [List.length_cons, List.length_nil, Nat.reduceAdd] <;> rfl)))
 | (refine st_nil ?_)
 | (apply st_a; (case hc => rfl); (case he => (simp only [go_sem, *] <;> rfl)); (case hu => (simp only [updL_nil, updL_cons] <;> rfl)); (case hp => first | trivial))
 | (refine Awp.ret ?_; try simp only [go_sem, *])
 | (refine Awp.exit ?_; try simp only [go_sem, *])
 | (apply Awp.cond; (case hc => (simp only [go_sem, *] <;> rfl)); all_goals (intro hg; (try simp only [Bool.not_true, Bool.not_false, reduceCtorEq] at hg)))
 | refine Awp.seq ?_)
          all_goals repeat' (first | exact Lower.int (by first | rfl | (simp only [true_and, Bool.true_and, Bool.false_and, Bool.and_true, Bool.and_false, Bool.true_or, Bool.false_or, reduceIte, Bool.false_eq_true, *]; done) | (simp only [true_and, reduceIte, Bool.false_eq_true, *] <;> rfl) | (simp [true_and]; done) | (simp_all [true_and]; done) | omega) | exact Lower.ownE (by simp only [go_sem, *] <;> rfl) (by first | rfl | (simp only [true_and, Bool.true_and, Bool.false_and, Bool.and_true, Bool.and_false, Bool.true_or, Bool.false_or, reduceIte, Bool.false_eq_true, *]; done) | (simp only [true_and, reduceIte, Bool.false_eq_true, *] <;> rfl) | (simp [true_and]; done) | (simp_all [true_and]; done) | omega) | refine Lower.tupF ?_ | refine All2.cons ?_ ?_ | exact All2.nil)
    · rw [if_pos hc]
      have hc' : (checkE bs [] != 0) = true := by simpa using hc
      have hnil : stys [] = [] := rfl
      rw [hnil] at c1
      generalize checkE bs [] = e at *
      clear h3
      refine fn_pure Tryz.F17 (Nat.le_of_ble_eq_true rfl) ?_; unfold Tryz.ac17 AR AM AO
      repeat' (first
 | (apply Awp.sreg; (case hn => (simp only [List.length_cons, List.length_nil, Nat.reduceAdd] <;> rfl)))
 | (refine st_nil ?_)
 | (apply st_a; (case hc => rfl); (case he => (simp only [go_sem, *] <;> rfl)); (case hu => (simp only [updL_nil, updL_cons] <;> rfl)); (case hp => first | trivial))
 | (apply st_c; (case hc => (simp only [go_sem, *] <;> rfl)); (case hl => (simp only [go_sem, *] <;> rfl)); (case hn => (simp only [go_sem, *] <;> rfl)); (case hp => first | exact c0 | (have hXz := c0; simp only [go_sem, *] at hXz; exact hXz)))
 | (apply st_c; (case hc => (simp only [go_sem, *] <;> rfl)); (case hl => (simp only [go_sem, *] <;> rfl)); (case hn => (simp only [go_sem, *] <;> rfl)); (case hp => first | exact c1 | (have hXz := c1; simp only [go_sem, *] at hXz; exact hXz)))
 | (refine Awp.ret ?_; try simp only [go_sem, *])
 | (refine Awp.skip ?_; try simp only [go_sem, *])
 | (apply Awp.cond; (case hc => (simp only [go_sem, *] <;> rfl)); all_goals (intro hg; (try simp only [Bool.not_true, Bool.not_false, reduceCtorEq] at hg); (try have hg' := hg); (try simp only [decide_eq_true_eq, decide_eq_false_iff_not, Bool.and_eq_true, Bool.or_eq_false_iff, bne_iff_ne, bne_eq_false_iff_eq, beq_iff_eq, beq_eq_false_iff_ne, Int.not_lt, Int.not_le, Int.ofNat_lt, Int.ofNat_le, Int.natCast_inj] at hg')))
 | refine Awp.seq ?_)
      all_goals repeat' (first | exact Lower.int (by first | rfl | (simp only [true_and, Bool.true_and, Bool.false_and, Bool.and_true, Bool.and_false, Bool.true_or, Bool.false_or, reduceIte, Bool.false_eq_true, *]; done) | (simp only [true_and, reduceIte, Bool.false_eq_true, *] <;> rfl) | (simp [true_and]; done) | (simp_all [true_and]; done) | omega) | exact Lower.nilE (by first | rfl | (simp only [true_and, Bool.true_and, Bool.false_and, Bool.and_true, Bool.and_false, Bool.true_or, Bool.false_or, reduceIte, Bool.false_eq_true, *]; done) | (simp only [true_and, reduceIte, Bool.false_eq_true, *] <;> rfl) | (simp [true_and]; done) | (simp_all [true_and]; done) | omega) | refine Lower.tupF ?_ | refine All2.cons ?_ ?_ | exact All2.nil)
  · rw [if_pos he]
    have he' : (e != 0) = true := by simpa using he
    clear h2 h3
    refine fn_pure Tryz.F17 (Nat.le_of_ble_eq_true rfl) ?_; unfold Tryz.ac17 AR AM AO
    repeat' (first
 | (apply Awp.sreg; (case hn => (simp only [List.length_cons, List.length_nil, Nat.reduceAdd] <;> rfl)))
 | (refine st_nil ?_)
 | (apply st_a; (case hc => rfl); (case he => (simp only [go_sem, *] <;> rfl)); (case hu => (simp only [updL_nil, updL_cons] <;> rfl)); (case hp => first | trivial))
 | (apply st_c; (case hc => (simp only [go_sem, *] <;> rfl)); (case hl => (simp only [go_sem, *] <;> rfl)); (case hn => (simp only [go_sem, *] <;> rfl)); (case hp => first | exact c0 | (have hXz := c0; simp only [go_sem, *] at hXz; exact hXz)))
 | (refine Awp.ret ?_; try simp only [go_sem, *])
 | (apply Awp.cond; (case hc => (simp only [go_sem, *] <;> rfl)); all_goals (intro hg; (try simp only [Bool.not_true, Bool.not_false, reduceCtorEq] at hg); (try have hg' := hg); (try simp only [decide_eq_true_eq, decide_eq_false_iff_not, Bool.and_eq_true, Bool.or_eq_false_iff, bne_iff_ne, bne_eq_false_iff_eq, beq_iff_eq, beq_eq_false_iff_ne, Int.not_lt, Int.not_le, Int.ofNat_lt, Int.ofNat_le, Int.natCast_inj] at hg')))
 | refine Awp.seq ?_)
    all_goals repeat' (first | exact Lower.int (by first | rfl | (simp only [true_and, Bool.true_and, Bool.false_and, Bool.and_true, Bool.and_false, Bool.true_or, Bool.false_or, reduceIte, Bool.false_eq_true, *]; done) | (simp only [true_and, reduceIte, Bool.false_eq_true, *] <;> rfl) | (simp [true_and]; done) | (simp_all [true_and]; done) | omega) | exact Lower.nilE (by first | rfl | (simp only [true_and, Bool.true_and, Bool.false_and, Bool.and_true, Bool.and_false, Bool.true_or, Bool.false_or, reduceIte, Bool.false_eq_true, *]; done) | (simp only [true_and, reduceIte, Bool.false_eq_true, *] <;> rfl) | (simp [true_and]; done) | (simp_all [true_and]; done) | omega) | refine Lower.tupF ?_ | refine All2.cons ?_ ?_ | exact All2.nil)
end Go.Proofs
namespace Go.Proofs
open Go Go.Ab
set_option maxHeartbeats 1000000
def sav (V : List Sty) : List AV := V.map Sty.av
def getS (K : List ByteArray) (V : List Sty) (s : ByteArray) : Sty := match mapIx K s with
  | some i => V.getD i zeroSty
  | none => zeroSty
theorem getS_eq {K : List ByteArray} {V : List Sty} (hl : V.length = K.length) (s : ByteArray) : mapVal (sav V) (.agg zeroSty.cells) (mapIx K s) = .agg (getS K V s).cells := by
  unfold getS
  cases h : mapIx K s with
  | none => rfl
  | some i =>
    have := mapIx_lt h
    simp [mapVal, sav, av, List.getD_eq_getElem?_getD, hl, this, Sty.av]
theorem putS_eq (K : List ByteArray) (V : List Sty) (s : ByteArray) (x : Sty) : putV (sav V) (.agg x.cells) (mapIx K s) = sav (pV K V s x) := by
  unfold pV
  cases h : mapIx K s with
  | none => simp [putV, sav, Sty.av]
  | some i => simp [putV, sav, List.map_set, Sty.av]
structure Sm where
  K : List ByteArray
  V : List Sty
def smS (m : Sm) (x : Sty) : Sm := ⟨pK m.K x.item, pV m.K m.V x.item x⟩
def smG (P : List Sty) : Sm := P.foldl smS ⟨[], []⟩
theorem smG_step (P : List Sty) (i : Nat) (h : i < P.length) : smG (P.take (i + 1)) = smS (smG (P.take i)) (P.getD i zeroSty) := by
  unfold smG
  rw [List.take_add_one, List.getElem?_eq_getElem h, List.foldl_append]
  simp [List.getD_eq_getElem?_getD, h]
theorem smG_len : ∀ (P : List Sty) (m : Sm), m.V.length = m.K.length → (P.foldl smS m).V.length = (P.foldl smS m).K.length
  | [], _, h => h
  | x :: P, m, h => smG_len P (smS m x) (pV_len _ _ _ _ h)
end Go.Proofs
namespace Go.Proofs
open Go Go.Ab
set_option maxHeartbeats 8000000
set_option maxRecDepth 100000
attribute [local irreducible] Awp aops aopsL Go.Ab.Pure PureOwn PureTwoM
def badS (m : Sm) (q : Wk) : Bool := !hasK m.K q.id || ((getS m.K m.V q.id).len != q.len) || ((getS m.K m.V q.id).wid != q.wid) || (IntKind.i64.wrap ((getS m.K m.V q.id).b - (getS m.K m.V q.id).a) != q.hr)
def lateS (m : Sm) (q : Wk) (s : ByteArray) : Bool := decide ((getS m.K m.V q.id).a < (getS m.K m.V s).b)
def anyLate (m : Sm) (q : Wk) : Bool := q.af.any (lateS m q)
def pchkF (l S : List Wk) (P : List Sty) (m : Sm) : Int := if ((P.length : Int) != (l.length : Int) || (m.K.length : Int) != (l.length : Int)) = true then 17 else if S.any (badS m) = true then 17 else if S.any (anyLate m) = true then 11 else 0
def pchkE (l : List Wk) (bs : List By) (P : List Sty) : Int := if (ordE l).2 ≠ 0 then (ordE l).2 else if checkE bs P ≠ 0 then checkE bs P else pchkF l (ordE l).1 P (smG P)
theorem any_hit {α : Type} {p : α → Bool} {l : List α} {d : α} {i : Nat} (h : i < l.length) (hp : p (l.getD i d) = true) : l.any p = true :=
  List.any_eq_true.2 ⟨_, getD_mem d h, hp⟩
theorem any_endD {α : Type} {p : α → Bool} {l : List α} {d : α} {i : Nat} (h : l.length ≤ i) (hp : ∀ j, j < i → p (l.getD j d) = false) : l.any p = false := by
  rw [List.any_eq_false]
  intro x hx
  obtain ⟨j, hj, rfl⟩ := List.getElem_of_mem hx
  have := hp j (by omega)
  rw [List.getD_eq_getElem?_getD, List.getElem?_eq_getElem hj, Option.getD_some] at this
  rw [this]; decide
def ck1 (l S : List Wk) (P : List Sty) (i : Nat) (m : Sm) : AState := mkS [(0, .sl (wks l)), (2, .sl (stys P)), (7, .sl (wks S)), (10, .mapv 0), (36, .sl (stys P)), (37, .v (.int .i64 P.length)), (38, .v (.int .i64 i))] [(0, .map m.K (sav m.V))]
def ck2 (S : List Wk) (i : Nat) (m : Sm) : AState := mkS [(7, .sl (wks S)), (10, .mapv 0), (59, .sl (wks S)), (60, .v (.int .i64 S.length)), (61, .v (.int .i64 i))] [(0, .map m.K (sav m.V))]
def ck3 (S : List Wk) (i : Nat) (m : Sm) : AState := mkS [(10, .mapv 0), (101, .sl (wks S)), (102, .v (.int .i64 S.length)), (103, .v (.int .i64 i))] [(0, .map m.K (sav m.V))]
def ck4 (S : List Wk) (i : Nat) (m : Sm) (q : Wk) (k : Nat) : AState := mkS [(10, .mapv 0), (101, .sl (wks S)), (102, .v (.int .i64 S.length)), (103, .v (.int .i64 i)), (18, .bp 1 0), (108, .sl (strs q.af)), (109, .v (.int .i64 q.af.length)), (110, .v (.int .i64 k))] [(0, .map m.K (sav m.V)), (1, .box q.cells)]
theorem pchk_ok (l : List Wk) (bs : List By) (P : List Sty) (hl : l.length < 1000000) (hb : bs.length < 100000) (hP : P.length < 100000) (ha : ∀ q ∈ l, q.af.length < 1000000) : Pure Tryz.prog 20 [.sl (wks l), .sl (bys bs), .sl (stys P)] (.v (.int .i64 (pchkE l bs P))) := by
  have c0 := ordered_ok l hl ha
  have c1 := check_ok bs P hb hP
  have h1 := ordE_len l
  have h2 := ordE_err l
  have h3 : ∀ q ∈ (ordE l).1, q.af.length < 1000000 := fun q hq => ha q (ordE_mem l q hq)
  unfold pchkE
  generalize ordE l = R at *
  obtain ⟨S, e⟩ := R
  simp only at h1 h2 h3 c0 ⊢
  clear ha
  by_cases he : e = 0
  · subst he
    clear h2
    rw [if_neg (by simp)]
    by_cases hc : checkE bs P = 0
    · rw [if_neg (by simp [hc])]
      rw [hc] at c1
      clear hc
      generalize hR : pchkF l S P (smG P) = R
      have hmk : (smG P).V.length = (smG P).K.length := smG_len P ⟨[], []⟩ rfl
      refine fn_pure Tryz.F20 (Nat.le_of_ble_eq_true rfl) ?_; unfold Tryz.ac20 AR AM AO
      repeat' (first
 | (apply Awp.sreg; (case hn => (simp only [List.length_cons, List.length_nil, Nat.reduceAdd] <;> rfl)))
 | (refine st_nil ?_)
 | (apply st_a; (case hc => rfl); (case he => (simp only [go_sem, *] <;> rfl)); (case hu => (simp only [updL_nil, updL_cons] <;> rfl)); (case hp => first | trivial))
 | (apply st_c; (case hc => (simp only [go_sem, *] <;> rfl)); (case hl => (simp only [go_sem, *] <;> rfl)); (case hn => (simp only [go_sem, *] <;> rfl)); (case hp => first | exact c0 | (have hXz := c0; simp only [go_sem, *] at hXz; exact hXz)))
 | (apply st_c; (case hc => (simp only [go_sem, *] <;> rfl)); (case hl => (simp only [go_sem, *] <;> rfl)); (case hn => (simp only [go_sem, *] <;> rfl)); (case hp => first | exact c1 | (have hXz := c1; simp only [go_sem, *] at hXz; exact hXz)))
 | (refine Awp.skip ?_; try simp only [go_sem, *])
 | refine Awp.block ?_
 | (apply Awp.cond; (case hc => (simp only [go_sem, *] <;> rfl)); all_goals (intro hg; (try simp only [Bool.not_true, Bool.not_false, reduceCtorEq] at hg)))
 | refine Awp.seq ?_)
      refine Awp.loop (fun i : Nat => i ≤ P.length) 100 (fun i => ck1 l S P i (smG (P.take i))) (fun i => P.length - i) 0 (Nat.zero_le _) ?_ ?_
      · have e1 : smG (P.take 0) = ⟨[], []⟩ := rfl
        have e2 : sav [] = [] := rfl
        unfold ck1
        rw [e1]
        simp only [e2]
        clear h3 hR hmk
        (apply Ghost.mk [(0, 16)] []; (case hdead => rfl); (case hinj => rfl); (case hV => (simp only [go_sem, *]) <;> (repeat' (first | refine And.intro ?_ ?_ | exact View.int (by first | rfl | omega | (simp; done) | (rw [wrap_i64] <;> (try simp only [Int.natCast_add]) <;> omega) | (simp [*]; done)) | exact .mapv rfl (by decide)))); (case hB => (simp only [go_sem, *]) <;> (repeat' (first | exact ⟨_, rfl, BView.mapE (by first | rfl | omega | (simp; done) | (rw [wrap_i64] <;> (try simp only [Int.natCast_add]) <;> omega) | (simp [*]; done)) (by first | rfl | omega | (simp; done) | (rw [wrap_i64] <;> (try simp only [Int.natCast_add]) <;> omega) | (simp [*]; done))⟩))))
      · intro i hi
        by_cases hlt : i < P.length
        · have hlt' : (i : Int) < P.length := by omega
          have hat := stys_at P i hlt
          have hz : ((P.getD i zeroSty).cells).length = 8 := rfl
          have hst := smG_step P i hlt
          have hps := putS_eq (smG (P.take i)).K (smG (P.take i)).V (P.getD i zeroSty).item (P.getD i zeroSty)
          have hpk := pK_eq (smG (P.take i)).K (P.getD i zeroSty).item
          generalize smG (P.take i) = m at *
          generalize P.getD i zeroSty = x at *
          simp only [Sty.cells] at hps
          unfold smS at hst
          clear c0 c1 h3 hR hmk
          unfold ck1
          repeat' (first
 | (apply Awp.sreg; (case hn => (simp only [List.length_cons, List.length_nil, Nat.reduceAdd] <;> rfl)))
 | (refine st_nil ?_)
 | (apply st_a; (case hc => rfl); (case he => (simp only [go_sem, *] <;> rfl)); (case hu => (simp only [updL_nil, updL_cons] <;> rfl)); (case hp => first | trivial | omega))
 | (apply Awp.reg; (case hn => (simp only [List.length_cons, List.length_nil, Nat.reduceAdd] <;> rfl)))
 | (refine Awp.skip ?_; try simp only [go_sem, *])
 | refine Awp.block ?_
 | (apply Awp.cond; (case hc => (simp only [go_sem, *] <;> rfl)); all_goals (intro hg; (try simp only [Bool.not_true, Bool.not_false, reduceCtorEq] at hg)))
 | refine Awp.seq ?_)
          refine ⟨i + 1, by omega, by omega, ?_⟩
          rw [hst]
          clear hst
          (apply Ghost.mk [] []; (case hdead => rfl); (case hinj => rfl); (case hV => (simp only [go_sem, *]) <;> (repeat' (first | refine And.intro ?_ ?_ | exact View.int (by first | rfl | omega | (simp; done) | (rw [wrap_i64] <;> (try simp only [Int.natCast_add]) <;> omega) | (simp [*]; done)) | exact .mapv rfl (by decide)))); (case hB => (simp only [go_sem, *]) <;> (repeat' (first | exact ⟨_, rfl, BView.mapE (by first | rfl | omega | (simp; done) | (rw [wrap_i64] <;> (try simp only [Int.natCast_add]) <;> omega) | (simp [*]; done)) (by first | rfl | omega | (simp; done) | (rw [wrap_i64] <;> (try simp only [Int.natCast_add]) <;> omega) | (simp [*]; done))⟩))))
        · have hlt' : ¬ (i : Int) < P.length := by omega
          have e1 : P.take i = P := List.take_of_length_le (by omega)
          rw [e1]
          clear e1 c0 c1
          unfold pchkF at hR
          generalize smG P = m at *
          unfold ck1
          cases hL : ((P.length : Int) != (l.length : Int) || (m.K.length : Int) != (l.length : Int))
          case true =>
            rw [if_pos hL] at hR
            subst hR
            clear h3 hmk
            repeat' (first
 | (apply Awp.sreg; (case hn => (simp only [List.length_cons, List.length_nil, Nat.reduceAdd] <;> rfl)))
 | (refine st_nil ?_)
 | (apply st_a; (case hc => rfl); (case he => (simp only [go_sem, *] <;> rfl)); (case hu => (simp only [updL_nil, updL_cons] <;> rfl)); (case hp => first | trivial))
 | (apply st_m; (case hc => rfl); (case hg => (simp only [go_sem, *] <;> rfl)); (case he => (intro hQz; (try simp only [wantB_t, wantB_f, Bool.and_eq_true, Bool.not_eq_true', Bool.not_true, Bool.not_false, and_true, true_and] at hQz); simp only [go_sem, *] <;> rfl)); (case hp => (intro hQz; (try simp only [wantB_t, wantB_f, Bool.and_eq_true, Bool.not_eq_true', Bool.or_eq_false_iff, decide_eq_true_eq, decide_eq_false_iff_not, beq_iff_eq, beq_eq_false_iff_ne, bne_iff_ne, bne_eq_false_iff_eq, Int.not_lt, Int.not_le, Int.ofNat_lt, Int.ofNat_le] at hQz); first | trivial)))
 | (refine Awp.ret ?_; try simp only [go_sem, *])
 | (refine Awp.exit ?_; try simp only [go_sem, *])
 | (apply Awp.cond; (case hc => (simp only [go_sem, *] <;> rfl)); all_goals (intro hg; (try simp only [Bool.not_true, Bool.not_false, reduceCtorEq] at hg)))
 | refine Awp.seq ?_)
            all_goals repeat' (first | exact Lower.int (by first | rfl | (simp only [true_and, Bool.true_and, Bool.false_and, Bool.and_true, Bool.and_false, Bool.true_or, Bool.false_or, reduceIte, Bool.false_eq_true, *]; done) | (simp only [true_and, reduceIte, Bool.false_eq_true, *] <;> rfl) | (simp [true_and]; done) | (simp_all [true_and]; done) | omega))
          rw [hL, if_neg (by decide)] at hR
          repeat' (first
 | (apply Awp.sreg; (case hn => (simp only [List.length_cons, List.length_nil, Nat.reduceAdd] <;> rfl)))
 | (refine st_nil ?_)
 | (apply st_a; (case hc => rfl); (case he => (simp only [go_sem, *] <;> rfl)); (case hu => (simp only [updL_nil, updL_cons] <;> rfl)); (case hp => first | trivial))
 | (apply st_m; (case hc => rfl); (case hg => (simp only [go_sem, *] <;> rfl)); (case he => (intro hQz; (try simp only [wantB_t, wantB_f, Bool.and_eq_true, Bool.not_eq_true', Bool.not_true, Bool.not_false, and_true, true_and] at hQz); simp only [go_sem, *] <;> rfl)); (case hp => (intro hQz; (try simp only [wantB_t, wantB_f, Bool.and_eq_true, Bool.not_eq_true', Bool.or_eq_false_iff, decide_eq_true_eq, decide_eq_false_iff_not, beq_iff_eq, beq_eq_false_iff_ne, bne_iff_ne, bne_eq_false_iff_eq, Int.not_lt, Int.not_le, Int.ofNat_lt, Int.ofNat_le] at hQz); first | trivial)))
 | (refine Awp.skip ?_; try simp only [go_sem, *])
 | (refine Awp.exit ?_; try simp only [go_sem, *])
 | refine Awp.block ?_
 | (apply Awp.cond; (case hc => (simp only [go_sem, *] <;> rfl)); all_goals (intro hg; (try simp only [Bool.not_true, Bool.not_false, reduceCtorEq] at hg)))
 | refine Awp.seq ?_)
          refine Awp.loop (fun i : Nat => i ≤ S.length ∧ ∀ j, j < i → badS m (S.getD j zeroWk) = false) 200 (fun i => ck2 S i m) (fun i => S.length - i) 0 (by simp) ?_ ?_
          · unfold ck2
            clear h3 hR hmk hL
            (apply Ghost.mk [] []; (case hdead => rfl); (case hinj => rfl); (case hV => (simp only [go_sem, *]) <;> (repeat' (first | refine And.intro ?_ ?_ | exact View.int (by first | rfl | omega | (simp; done) | (rw [wrap_i64] <;> (try simp only [Int.natCast_add]) <;> omega) | (simp [*]; done)) | exact .mapv rfl (by decide)))); (case hB => (simp only [go_sem, *]) <;> (repeat' (first | exact ⟨_, rfl, BView.mapE (by first | rfl | omega | (simp; done) | (rw [wrap_i64] <;> (try simp only [Int.natCast_add]) <;> omega) | (simp [*]; done)) (by first | rfl | omega | (simp; done) | (rw [wrap_i64] <;> (try simp only [Int.natCast_add]) <;> omega) | (simp [*]; done))⟩))))
          · intro i ⟨hi, hj⟩
            clear hL
            by_cases hlt : i < S.length
            · have hlt' : (i : Int) < S.length := by omega
              have hat := wks_at S i hlt
              have hz : ((S.getD i zeroWk).cells).length = 5 := rfl
              have hbad : badS m (S.getD i zeroWk) = true → R = 17 := fun h => by rw [← hR, if_pos (any_hit hlt h)]
              have hnx : badS m (S.getD i zeroWk) = false → Hid (∀ j, j < i + 1 → badS m (S.getD j zeroWk) = false) := fun h => ltSucc hj h
              have hsm := @isSome_has m.K (S.getD i zeroWk).id
              have hv := getS_eq hmk (S.getD i zeroWk).id
              have hy : ((getS m.K m.V (S.getD i zeroWk).id).cells).length = 8 := rfl
              simp only [Sty.cells, zeroSty] at hv
              clear hj hR h3
              generalize S.getD i zeroWk = q at *
              unfold badS at hbad hnx
              generalize getS m.K m.V q.id = y at *
              unfold ck2
              cases h4 : (!hasK m.K q.id || (y.len != q.len) || (y.wid != q.wid) || (IntKind.i64.wrap (y.b - y.a) != q.hr))
              · have hnx := hnx h4
                clear hbad
                repeat' (first
 | (apply Awp.sreg; (case hn => (simp only [List.length_cons, List.length_nil, Nat.reduceAdd] <;> rfl)))
 | (refine st_nil ?_)
 | (apply st_a; (case hc => rfl); (case he => (simp only [go_sem, *] <;> rfl)); (case hu => (simp only [updL_nil, updL_cons] <;> rfl)); (case hp => first | trivial | omega))
 | (apply st_m; (case hc => rfl); (case hg => (simp only [go_sem, *] <;> rfl)); (case he => (intro hQz; (try simp only [wantB_t, wantB_f, Bool.and_eq_true, Bool.not_eq_true', Bool.not_true, Bool.not_false, and_true, true_and] at hQz); simp only [go_sem, *] <;> rfl)); (case hp => (intro hQz; (try simp only [wantB_t, wantB_f, Bool.and_eq_true, Bool.not_eq_true', Bool.or_eq_false_iff, decide_eq_true_eq, decide_eq_false_iff_not, beq_iff_eq, beq_eq_false_iff_ne, bne_iff_ne, bne_eq_false_iff_eq, Int.not_lt, Int.not_le, Int.ofNat_lt, Int.ofNat_le] at hQz); first | trivial)))
 | (apply Awp.reg; (case hn => (simp only [List.length_cons, List.length_nil, Nat.reduceAdd] <;> rfl)))
 | (refine Awp.skip ?_; try simp only [go_sem, *])
 | refine Awp.block ?_
 | (apply Awp.cond; (case hc => (simp only [go_sem, *] <;> rfl)); all_goals (intro hg; (try simp only [Bool.not_true, Bool.not_false, reduceCtorEq] at hg)))
 | refine Awp.seq ?_)
                refine ⟨i + 1, ⟨by omega, hnx⟩, by omega, ?_⟩
                (apply Ghost.mk [] []; (case hdead => rfl); (case hinj => rfl); (case hV => (simp only [go_sem, *]) <;> (repeat' (first | refine And.intro ?_ ?_ | exact View.int (by first | rfl | omega | (simp; done) | (rw [wrap_i64] <;> (try simp only [Int.natCast_add]) <;> omega) | (simp [*]; done)) | exact .mapv rfl (by decide)))); (case hB => (simp only [go_sem, *]) <;> (repeat' (first | exact ⟨_, rfl, BView.mapE (by first | rfl | omega | (simp; done) | (rw [wrap_i64] <;> (try simp only [Int.natCast_add]) <;> omega) | (simp [*]; done)) (by first | rfl | omega | (simp; done) | (rw [wrap_i64] <;> (try simp only [Int.natCast_add]) <;> omega) | (simp [*]; done))⟩))))
              · have hbad := hbad h4
                clear hnx
                subst hbad
                repeat' (first
 | (apply Awp.sreg; (case hn => (simp only [List.length_cons, List.length_nil, Nat.reduceAdd] <;> rfl)))
 | (refine st_nil ?_)
 | (apply st_a; (case hc => rfl); (case he => (simp only [go_sem, *] <;> rfl)); (case hu => (simp only [updL_nil, updL_cons] <;> rfl)); (case hp => first | trivial | omega))
 | (apply st_m; (case hc => rfl); (case hg => (simp only [go_sem, *] <;> rfl)); (case he => (intro hQz; (try simp only [wantB_t, wantB_f, Bool.and_eq_true, Bool.not_eq_true', Bool.not_true, Bool.not_false, and_true, true_and] at hQz); simp only [go_sem, *] <;> rfl)); (case hp => (intro hQz; (try simp only [wantB_t, wantB_f, Bool.and_eq_true, Bool.not_eq_true', Bool.or_eq_false_iff, decide_eq_true_eq, decide_eq_false_iff_not, beq_iff_eq, beq_eq_false_iff_ne, bne_iff_ne, bne_eq_false_iff_eq, Int.not_lt, Int.not_le, Int.ofNat_lt, Int.ofNat_le] at hQz); first | trivial)))
 | (refine Awp.ret ?_; try simp only [go_sem, *])
 | (refine Awp.skip ?_; try simp only [go_sem, *])
 | refine Awp.block ?_
 | (apply Awp.cond; (case hc => (simp only [go_sem, *] <;> rfl)); all_goals (intro hg; (try simp only [Bool.not_true, Bool.not_false, reduceCtorEq] at hg)))
 | refine Awp.seq ?_)
                all_goals repeat' (first | exact Lower.int (by first | rfl | (simp only [true_and, Bool.true_and, Bool.false_and, Bool.and_true, Bool.and_false, Bool.true_or, Bool.false_or, reduceIte, Bool.false_eq_true, *]; done) | (simp only [true_and, reduceIte, Bool.false_eq_true, *] <;> rfl) | (simp [true_and]; done) | (simp_all [true_and]; done) | omega))
            · have hlt' : ¬ (i : Int) < S.length := by omega
              have hne : S.any (badS m) = false := any_endD (d := zeroWk) (by omega) hj
              rw [hne, if_neg (by decide)] at hR
              clear hj hne
              unfold ck2
              repeat' (first
 | (apply Awp.sreg; (case hn => (simp only [List.length_cons, List.length_nil, Nat.reduceAdd] <;> rfl)))
 | (refine st_nil ?_)
 | (apply st_a; (case hc => rfl); (case he => (simp only [go_sem, *] <;> rfl)); (case hu => (simp only [updL_nil, updL_cons] <;> rfl)); (case hp => first | trivial))
 | (refine Awp.exit ?_; try simp only [go_sem, *])
 | refine Awp.block ?_
 | (apply Awp.cond; (case hc => (simp only [go_sem, *] <;> rfl)); all_goals (intro hg; (try simp only [Bool.not_true, Bool.not_false, reduceCtorEq] at hg)))
 | refine Awp.seq ?_)
              refine Awp.loop (fun i : Nat => i ≤ S.length ∧ ∀ j, j < i → anyLate m (S.getD j zeroWk) = false) 300 (fun i => ck3 S i m) (fun i => S.length - i) 0 (by simp) ?_ ?_
              · unfold ck3
                clear h3 hR hmk
                (apply Ghost.mk [] []; (case hdead => rfl); (case hinj => rfl); (case hV => (simp only [go_sem, *]) <;> (repeat' (first | refine And.intro ?_ ?_ | exact View.int (by first | rfl | omega | (simp; done) | (rw [wrap_i64] <;> (try simp only [Int.natCast_add]) <;> omega) | (simp [*]; done)) | exact .mapv rfl (by decide)))); (case hB => (simp only [go_sem, *]) <;> (repeat' (first | exact ⟨_, rfl, BView.mapE (by first | rfl | omega | (simp; done) | (rw [wrap_i64] <;> (try simp only [Int.natCast_add]) <;> omega) | (simp [*]; done)) (by first | rfl | omega | (simp; done) | (rw [wrap_i64] <;> (try simp only [Int.natCast_add]) <;> omega) | (simp [*]; done))⟩))))
              · intro i ⟨hi, hj⟩
                by_cases hlt : i < S.length
                · have hlt' : (i : Int) < S.length := by omega
                  have hat := wks_at S i hlt
                  have hz : ((S.getD i zeroWk).cells).length = 5 := rfl
                  have hal := h3 _ (getD_mem zeroWk hlt)
                  have hbad : anyLate m (S.getD i zeroWk) = true → R = 11 := fun h => by rw [← hR, if_pos (any_hit hlt h)]
                  have hnx : anyLate m (S.getD i zeroWk) = false → Hid (∀ j, j < i + 1 → anyLate m (S.getD j zeroWk) = false) := fun h => ltSucc hj h
                  clear hj hR h3
                  generalize S.getD i zeroWk = q at *
                  unfold anyLate at hbad hnx
                  unfold ck3
                  repeat' (first
 | (apply Awp.sreg; (case hn => (simp only [List.length_cons, List.length_nil, Nat.reduceAdd] <;> rfl)))
 | (refine st_nil ?_)
 | (apply st_a; (case hc => rfl); (case he => (simp only [go_sem, *] <;> rfl)); (case hu => (simp only [updL_nil, updL_cons] <;> rfl)); (case hp => first | trivial | omega))
 | (refine Awp.skip ?_; try simp only [go_sem, *])
 | refine Awp.block ?_
 | (apply Awp.cond; (case hc => (simp only [go_sem, *] <;> rfl)); all_goals (intro hg; (try simp only [Bool.not_true, Bool.not_false, reduceCtorEq] at hg)))
 | refine Awp.seq ?_)
                  refine Awp.loop (fun k : Nat => k ≤ q.af.length ∧ ∀ j, j < k → lateS m q (q.af.getD j ⟨#[]⟩) = false) 400 (fun k => ck4 S i m q k) (fun k => q.af.length - k) 0 (by simp) ?_ ?_
                  · unfold ck4
                    clear hbad hnx
                    (apply Ghost.mk [(0, 0), (1, 303)] []; (case hdead => rfl); (case hinj => rfl); (case hV => (simp only [go_sem, *]) <;> (repeat' (first | refine And.intro ?_ ?_ | exact View.int (by first | rfl | omega | (simp; done) | (rw [wrap_i64] <;> (try simp only [Int.natCast_add]) <;> omega) | (simp [*]; done)) | exact .bp rfl (by decide) | exact .mapv rfl (by decide)))); (case hB => (simp only [go_sem, *]) <;> (repeat' (first | refine And.intro ?_ ?_ | exact ⟨_, rfl, BView.boxF rfl⟩ | exact ⟨_, rfl, BView.mapE (by first | rfl | omega | (simp; done) | (rw [wrap_i64] <;> (try simp only [Int.natCast_add]) <;> omega) | (simp [*]; done)) (by first | rfl | omega | (simp; done) | (rw [wrap_i64] <;> (try simp only [Int.natCast_add]) <;> omega) | (simp [*]; done))⟩))))
                  · intro k ⟨hk, hkj⟩
                    by_cases hkt : k < q.af.length
                    · have hkt' : (k : Int) < q.af.length := by omega
                      have hsat := strs_at q.af k hkt
                      have hv1 := getS_eq hmk q.id
                      have hv2 := getS_eq hmk (q.af.getD k ⟨#[]⟩)
                      have hw1 : ((getS m.K m.V q.id).cells).length = 8 := rfl
                      simp only [Sty.cells, zeroSty] at hv1 hv2
                      cases h4 : lateS m q (q.af.getD k ⟨#[]⟩)
                      · have hnx2 := ltSucc hkj h4
                        change Hid _ at hnx2
                        clear hkj hbad hnx
                        unfold lateS at h4
                        generalize getS m.K m.V (q.af.getD k ⟨#[]⟩) = y at *
                        generalize getS m.K m.V q.id = x at *
                        unfold ck4
                        repeat' (first
 | (apply Awp.sreg; (case hn => (simp only [List.length_cons, List.length_nil, Nat.reduceAdd] <;> rfl)))
 | (refine st_nil ?_)
 | (apply st_a; (case hc => rfl); (case he => (simp only [go_sem, *] <;> rfl)); (case hu => (simp only [updL_nil, updL_cons] <;> rfl)); (case hp => first | trivial | omega))
 | (apply Awp.reg; (case hn => (simp only [List.length_cons, List.length_nil, Nat.reduceAdd] <;> rfl)))
 | (refine Awp.skip ?_; try simp only [go_sem, *])
 | refine Awp.block ?_
 | (apply Awp.cond; (case hc => (simp only [go_sem, *] <;> rfl)); all_goals (intro hg; (try simp only [Bool.not_true, Bool.not_false, reduceCtorEq] at hg)))
 | refine Awp.seq ?_)
                        refine ⟨k + 1, ⟨by omega, hnx2⟩, by omega, ?_⟩
                        clear hnx2
                        (apply Ghost.mk [] []; (case hdead => rfl); (case hinj => rfl); (case hV => (simp only [go_sem, *]) <;> (repeat' (first | refine And.intro ?_ ?_ | exact View.int (by first | rfl | omega | (simp; done) | (rw [wrap_i64] <;> (try simp only [Int.natCast_add]) <;> omega) | (simp [*]; done)) | exact .bp rfl (by decide) | exact .mapv rfl (by decide)))); (case hB => (simp only [go_sem, *]) <;> (repeat' (first | refine And.intro ?_ ?_ | exact ⟨_, rfl, BView.boxF rfl⟩ | exact ⟨_, rfl, BView.mapE (by first | rfl | omega | (simp; done) | (rw [wrap_i64] <;> (try simp only [Int.natCast_add]) <;> omega) | (simp [*]; done)) (by first | rfl | omega | (simp; done) | (rw [wrap_i64] <;> (try simp only [Int.natCast_add]) <;> omega) | (simp [*]; done))⟩))))
                      · have hbad := hbad (any_hit hkt h4)
                        clear hkj hnx
                        subst hbad
                        unfold lateS at h4
                        generalize getS m.K m.V (q.af.getD k ⟨#[]⟩) = y at *
                        generalize getS m.K m.V q.id = x at *
                        unfold ck4
                        repeat' (first
 | (apply Awp.sreg; (case hn => (simp only [List.length_cons, List.length_nil, Nat.reduceAdd] <;> rfl)))
 | (refine st_nil ?_)
 | (apply st_a; (case hc => rfl); (case he => (simp only [go_sem, *] <;> rfl)); (case hu => (simp only [updL_nil, updL_cons] <;> rfl)); (case hp => first | trivial | omega))
 | (refine Awp.ret ?_; try simp only [go_sem, *])
 | (refine Awp.skip ?_; try simp only [go_sem, *])
 | refine Awp.block ?_
 | (apply Awp.cond; (case hc => (simp only [go_sem, *] <;> rfl)); all_goals (intro hg; (try simp only [Bool.not_true, Bool.not_false, reduceCtorEq] at hg)))
 | refine Awp.seq ?_)
                        all_goals repeat' (first | exact Lower.int (by first | rfl | (simp only [true_and, Bool.true_and, Bool.false_and, Bool.and_true, Bool.and_false, Bool.true_or, Bool.false_or, reduceIte, Bool.false_eq_true, *]; done) | (simp only [true_and, reduceIte, Bool.false_eq_true, *] <;> rfl) | (simp [true_and]; done) | (simp_all [true_and]; done) | omega))
                    · have hkt' : ¬ (k : Int) < q.af.length := by omega
                      have hnx := hnx (any_endD (d := ⟨#[]⟩) (by omega) hkj)
                      clear hkj hbad
                      unfold ck4
                      repeat' (first
 | (apply Awp.sreg; (case hn => (simp only [List.length_cons, List.length_nil, Nat.reduceAdd] <;> rfl)))
 | (refine st_nil ?_)
 | (apply st_a; (case hc => rfl); (case he => (simp only [go_sem, *] <;> rfl)); (case hu => (simp only [updL_nil, updL_cons] <;> rfl)); (case hp => first | trivial))
 | (apply Awp.reg; (case hn => (simp only [List.length_cons, List.length_nil, Nat.reduceAdd] <;> rfl)))
 | (refine Awp.exit ?_; try simp only [go_sem, *])
 | (apply Awp.cond; (case hc => (simp only [go_sem, *] <;> rfl)); all_goals (intro hg; (try simp only [Bool.not_true, Bool.not_false, reduceCtorEq] at hg)))
 | refine Awp.seq ?_)
                      refine ⟨i + 1, ⟨by omega, hnx⟩, by omega, ?_⟩
                      clear hnx
                      (apply Ghost.mk [] []; (case hdead => rfl); (case hinj => rfl); (case hV => (simp only [go_sem, *]) <;> (repeat' (first | refine And.intro ?_ ?_ | exact View.int (by first | rfl | omega | (simp; done) | (rw [wrap_i64] <;> (try simp only [Int.natCast_add]) <;> omega) | (simp [*]; done)) | exact .mapv rfl (by decide)))); (case hB => (simp only [go_sem, *]) <;> (repeat' (first | exact ⟨_, rfl, BView.mapE (by first | rfl | omega | (simp; done) | (rw [wrap_i64] <;> (try simp only [Int.natCast_add]) <;> omega) | (simp [*]; done)) (by first | rfl | omega | (simp; done) | (rw [wrap_i64] <;> (try simp only [Int.natCast_add]) <;> omega) | (simp [*]; done))⟩))))
                · have hlt' : ¬ (i : Int) < S.length := by omega
                  have hne : S.any (anyLate m) = false := any_endD (d := zeroWk) (by omega) hj
                  rw [hne, if_neg (by decide)] at hR
                  clear hj hne h3
                  subst hR
                  unfold ck3
                  repeat' (first
 | (apply Awp.sreg; (case hn => (simp only [List.length_cons, List.length_nil, Nat.reduceAdd] <;> rfl)))
 | (refine st_nil ?_)
 | (apply st_a; (case hc => rfl); (case he => (simp only [go_sem, *] <;> rfl)); (case hu => (simp only [updL_nil, updL_cons] <;> rfl)); (case hp => first | trivial))
 | (refine Awp.ret ?_; try simp only [go_sem, *])
 | (refine Awp.exit ?_; try simp only [go_sem, *])
 | (apply Awp.cond; (case hc => (simp only [go_sem, *] <;> rfl)); all_goals (intro hg; (try simp only [Bool.not_true, Bool.not_false, reduceCtorEq] at hg)))
 | refine Awp.seq ?_)
                  all_goals repeat' (first | exact Lower.int (by first | rfl | (simp only [true_and, Bool.true_and, Bool.false_and, Bool.and_true, Bool.and_false, Bool.true_or, Bool.false_or, reduceIte, Bool.false_eq_true, *]; done) | (simp only [true_and, reduceIte, Bool.false_eq_true, *] <;> rfl) | (simp [true_and]; done) | (simp_all [true_and]; done) | omega))
    · rw [if_pos hc]
      have hc' : (checkE bs P != 0) = true := by simpa using hc
      generalize checkE bs P = e at *
      clear h3
      refine fn_pure Tryz.F20 (Nat.le_of_ble_eq_true rfl) ?_; unfold Tryz.ac20 AR AM AO
      repeat' (first
 | (apply Awp.sreg; (case hn => (simp only [List.length_cons, List.length_nil, Nat.reduceAdd] <;> rfl)))
 | (refine st_nil ?_)
 | (apply st_a; (case hc => rfl); (case he => (simp only [go_sem, *] <;> rfl)); (case hu => (simp only [updL_nil, updL_cons] <;> rfl)); (case hp => first | trivial))
 | (apply st_c; (case hc => (simp only [go_sem, *] <;> rfl)); (case hl => (simp only [go_sem, *] <;> rfl)); (case hn => (simp only [go_sem, *] <;> rfl)); (case hp => first | exact c0 | (have hXz := c0; simp only [go_sem, *] at hXz; exact hXz)))
 | (apply st_c; (case hc => (simp only [go_sem, *] <;> rfl)); (case hl => (simp only [go_sem, *] <;> rfl)); (case hn => (simp only [go_sem, *] <;> rfl)); (case hp => first | exact c1 | (have hXz := c1; simp only [go_sem, *] at hXz; exact hXz)))
 | (refine Awp.ret ?_; try simp only [go_sem, *])
 | (refine Awp.skip ?_; try simp only [go_sem, *])
 | (apply Awp.cond; (case hc => (simp only [go_sem, *] <;> rfl)); all_goals (intro hg; (try simp only [Bool.not_true, Bool.not_false, reduceCtorEq] at hg); (try have hg' := hg); (try simp only [decide_eq_true_eq, decide_eq_false_iff_not, Bool.and_eq_true, Bool.or_eq_false_iff, bne_iff_ne, bne_eq_false_iff_eq, beq_iff_eq, beq_eq_false_iff_ne, Int.not_lt, Int.not_le, Int.ofNat_lt, Int.ofNat_le, Int.natCast_inj] at hg')))
 | refine Awp.seq ?_)
      all_goals repeat' (first | exact Lower.int (by first | rfl | (simp only [true_and, Bool.true_and, Bool.false_and, Bool.and_true, Bool.and_false, Bool.true_or, Bool.false_or, reduceIte, Bool.false_eq_true, *]; done) | (simp only [true_and, reduceIte, Bool.false_eq_true, *] <;> rfl) | (simp [true_and]; done) | (simp_all [true_and]; done) | omega))
  · rw [if_pos he]
    have he' : (e != 0) = true := by simpa using he
    clear h2 h3
    refine fn_pure Tryz.F20 (Nat.le_of_ble_eq_true rfl) ?_; unfold Tryz.ac20 AR AM AO
    repeat' (first
 | (apply Awp.sreg; (case hn => (simp only [List.length_cons, List.length_nil, Nat.reduceAdd] <;> rfl)))
 | (refine st_nil ?_)
 | (apply st_a; (case hc => rfl); (case he => (simp only [go_sem, *] <;> rfl)); (case hu => (simp only [updL_nil, updL_cons] <;> rfl)); (case hp => first | trivial))
 | (apply st_c; (case hc => (simp only [go_sem, *] <;> rfl)); (case hl => (simp only [go_sem, *] <;> rfl)); (case hn => (simp only [go_sem, *] <;> rfl)); (case hp => first | exact c0 | (have hXz := c0; simp only [go_sem, *] at hXz; exact hXz)))
 | (refine Awp.ret ?_; try simp only [go_sem, *])
 | (apply Awp.cond; (case hc => (simp only [go_sem, *] <;> rfl)); all_goals (intro hg; (try simp only [Bool.not_true, Bool.not_false, reduceCtorEq] at hg); (try have hg' := hg); (try simp only [decide_eq_true_eq, decide_eq_false_iff_not, Bool.and_eq_true, Bool.or_eq_false_iff, bne_iff_ne, bne_eq_false_iff_eq, beq_iff_eq, beq_eq_false_iff_ne, Int.not_lt, Int.not_le, Int.ofNat_lt, Int.ofNat_le, Int.natCast_inj] at hg')))
 | refine Awp.seq ?_)
    all_goals repeat' (first | exact Lower.int (by first | rfl | (simp only [true_and, Bool.true_and, Bool.false_and, Bool.and_true, Bool.and_false, Bool.true_or, Bool.false_or, reduceIte, Bool.false_eq_true, *]; done) | (simp only [true_and, reduceIte, Bool.false_eq_true, *] <;> rfl) | (simp [true_and]; done) | (simp_all [true_and]; done) | omega))
end Go.Proofs
namespace Go.Proofs
open Go Go.Ab
set_option maxHeartbeats 8000000
set_option maxRecDepth 100000
theorem nan60 (x : Int) (w : World) : Calls Tryz.prog 60 #[.int .i64 x] w fun e w' => e = .returned (.bool false) ∧ w' = w := by
  go_enter Tryz.func60, Tryz.ntmps60
  go_wp2
  go_ret
  exact ⟨by simp, rfl⟩
theorem pure_one {P : Program} {f : FuncId} {x v : Value} (hc : Callable P f) (h : ∀ w, Calls P f #[x] w fun e w' => e = .returned v ∧ w' = w) : Go.Ab.Pure P f [.v x] (.v v) := by
  refine ⟨hc, fun ok w cs ha => ?_⟩
  obtain ⟨hl, hv⟩ := ha
  match cs, hl with
  | [a], _ =>
    have h1 := hv 0 (by simp)
    simp only [av_zero, cv, List.getD_cons_zero] at h1
    cases h1
    refine (h w).mono fun e w' ⟨he, hw⟩ => ⟨v, he, ?_, .v _⟩
    subst hw
    exact ⟨rfl, rfl, rfl, Nat.le_refl _, fun _ _ => rfl⟩
theorem nanI_ok (x : Int) : Go.Ab.Pure Tryz.prog 60 [.v (.int .i64 x)] (.v (.bool false)) := pure_one ⟨_, Tryz.func60, by kernel_rfl, by kernel_rfl⟩ (nan60 x)
attribute [local irreducible] Awp aops aopsL Go.Ab.Pure PureOwn PureTwoM
def cmpI (a b : Int) : Int := if a < b then -1 else if b < a then 1 else 0
theorem cmpI_ok (a b : Int) : Pure Tryz.prog 36 [.v (.int .i64 a), .v (.int .i64 b)] (.v (.int .i64 (cmpI a b))) := by
  have c0 := nanI_ok a
  have c1 := nanI_ok b
  unfold cmpI
  by_cases h1 : a < b
  · rw [if_pos h1]
    refine fn_pure Tryz.F36 (Nat.le_of_ble_eq_true rfl) ?_; unfold Tryz.ac36 AR AM AO
    repeat' (first
 | (apply Awp.sreg; (case hn => (simp only [List.length_cons, List.length_nil, Nat.reduceAdd] <;> rfl)))
 | (refine st_nil ?_)
 | (apply st_a; (case hc => rfl); (case he => (simp only [go_sem, *] <;> rfl)); (case hu => (simp only [updL_nil, updL_cons] <;> rfl)); (case hp => first | trivial))
 | (apply st_c; (case hc => (simp only [go_sem, *] <;> rfl)); (case hl => (simp only [go_sem, *] <;> rfl)); (case hn => (simp only [go_sem, *] <;> rfl)); (case hp => first | exact c0 | (have hXz := c0; simp only [go_sem, *] at hXz; exact hXz)))
 | (apply st_c; (case hc => (simp only [go_sem, *] <;> rfl)); (case hl => (simp only [go_sem, *] <;> rfl)); (case hn => (simp only [go_sem, *] <;> rfl)); (case hp => first | exact c1 | (have hXz := c1; simp only [go_sem, *] at hXz; exact hXz)))
 | (refine Awp.ret ?_; try simp only [go_sem, *])
 | (refine Awp.skip ?_; try simp only [go_sem, *])
 | (apply Awp.cond; (case hc => (simp only [go_sem, *] <;> rfl)); all_goals (intro hg; (try simp only [Bool.not_true, Bool.not_false, reduceCtorEq] at hg); (try have hg' := hg); (try simp only [decide_eq_true_eq, decide_eq_false_iff_not, Bool.and_eq_true, Bool.or_eq_false_iff, bne_iff_ne, bne_eq_false_iff_eq, beq_iff_eq, beq_eq_false_iff_ne, Int.not_lt, Int.not_le, Int.ofNat_lt, Int.ofNat_le, Int.natCast_inj] at hg')))
 | refine Awp.seq ?_)
    all_goals repeat' (first | exact Lower.int (by first | rfl | (simp only [true_and, Bool.true_and, Bool.false_and, Bool.and_true, Bool.and_false, Bool.true_or, Bool.false_or, reduceIte, Bool.false_eq_true, *]; done) | (simp only [true_and, reduceIte, Bool.false_eq_true, *] <;> rfl) | (simp [true_and]; done) | (simp_all [true_and]; done) | omega))
  · rw [if_neg h1]
    by_cases h2 : b < a
    · rw [if_pos h2]
      refine fn_pure Tryz.F36 (Nat.le_of_ble_eq_true rfl) ?_; unfold Tryz.ac36 AR AM AO
      repeat' (first
 | (apply Awp.sreg; (case hn => (simp only [List.length_cons, List.length_nil, Nat.reduceAdd] <;> rfl)))
 | (refine st_nil ?_)
 | (apply st_a; (case hc => rfl); (case he => (simp only [go_sem, *] <;> rfl)); (case hu => (simp only [updL_nil, updL_cons] <;> rfl)); (case hp => first | trivial))
 | (apply st_c; (case hc => (simp only [go_sem, *] <;> rfl)); (case hl => (simp only [go_sem, *] <;> rfl)); (case hn => (simp only [go_sem, *] <;> rfl)); (case hp => first | exact c0 | (have hXz := c0; simp only [go_sem, *] at hXz; exact hXz)))
 | (apply st_c; (case hc => (simp only [go_sem, *] <;> rfl)); (case hl => (simp only [go_sem, *] <;> rfl)); (case hn => (simp only [go_sem, *] <;> rfl)); (case hp => first | exact c1 | (have hXz := c1; simp only [go_sem, *] at hXz; exact hXz)))
 | (refine Awp.ret ?_; try simp only [go_sem, *])
 | (refine Awp.skip ?_; try simp only [go_sem, *])
 | (apply Awp.cond; (case hc => (simp only [go_sem, *] <;> rfl)); all_goals (intro hg; (try simp only [Bool.not_true, Bool.not_false, reduceCtorEq] at hg); (try have hg' := hg); (try simp only [decide_eq_true_eq, decide_eq_false_iff_not, Bool.and_eq_true, Bool.or_eq_false_iff, bne_iff_ne, bne_eq_false_iff_eq, beq_iff_eq, beq_eq_false_iff_ne, Int.not_lt, Int.not_le, Int.ofNat_lt, Int.ofNat_le, Int.natCast_inj] at hg')))
 | refine Awp.seq ?_)
      all_goals repeat' (first | exact Lower.int (by first | rfl | (simp only [true_and, Bool.true_and, Bool.false_and, Bool.and_true, Bool.and_false, Bool.true_or, Bool.false_or, reduceIte, Bool.false_eq_true, *]; done) | (simp only [true_and, reduceIte, Bool.false_eq_true, *] <;> rfl) | (simp [true_and]; done) | (simp_all [true_and]; done) | omega))
    · rw [if_neg h2]
      refine fn_pure Tryz.F36 (Nat.le_of_ble_eq_true rfl) ?_; unfold Tryz.ac36 AR AM AO
      repeat' (first
 | (apply Awp.sreg; (case hn => (simp only [List.length_cons, List.length_nil, Nat.reduceAdd] <;> rfl)))
 | (refine st_nil ?_)
 | (apply st_a; (case hc => rfl); (case he => (simp only [go_sem, *] <;> rfl)); (case hu => (simp only [updL_nil, updL_cons] <;> rfl)); (case hp => first | trivial))
 | (apply st_c; (case hc => (simp only [go_sem, *] <;> rfl)); (case hl => (simp only [go_sem, *] <;> rfl)); (case hn => (simp only [go_sem, *] <;> rfl)); (case hp => first | exact c0 | (have hXz := c0; simp only [go_sem, *] at hXz; exact hXz)))
 | (apply st_c; (case hc => (simp only [go_sem, *] <;> rfl)); (case hl => (simp only [go_sem, *] <;> rfl)); (case hn => (simp only [go_sem, *] <;> rfl)); (case hp => first | exact c1 | (have hXz := c1; simp only [go_sem, *] at hXz; exact hXz)))
 | (refine Awp.ret ?_; try simp only [go_sem, *])
 | (refine Awp.skip ?_; try simp only [go_sem, *])
 | (apply Awp.cond; (case hc => (simp only [go_sem, *] <;> rfl)); all_goals (intro hg; (try simp only [Bool.not_true, Bool.not_false, reduceCtorEq] at hg); (try have hg' := hg); (try simp only [decide_eq_true_eq, decide_eq_false_iff_not, Bool.and_eq_true, Bool.or_eq_false_iff, bne_iff_ne, bne_eq_false_iff_eq, beq_iff_eq, beq_eq_false_iff_ne, Int.not_lt, Int.not_le, Int.ofNat_lt, Int.ofNat_le, Int.natCast_inj] at hg')))
 | refine Awp.seq ?_)
      all_goals repeat' (first | exact Lower.int (by first | rfl | (simp only [true_and, Bool.true_and, Bool.false_and, Bool.and_true, Bool.and_false, Bool.true_or, Bool.false_or, reduceIte, Bool.false_eq_true, *]; done) | (simp only [true_and, reduceIte, Bool.false_eq_true, *] <;> rfl) | (simp [true_and]; done) | (simp_all [true_and]; done) | omega))
theorem clos35 (x y : Sty) : Pure Tryz.prog 35 [x.av, y.av] (.v (.int .i64 (cmpI x.b y.b))) := by
  have c0 := cmpI_ok x.b y.b
  generalize cmpI x.b y.b = R at *
  refine fn_pure Tryz.F35 (Nat.le_of_ble_eq_true rfl) ?_; unfold Tryz.ac35 AR AM AO
  repeat' (first
 | (apply Awp.sreg; (case hn => (simp only [List.length_cons, List.length_nil, Nat.reduceAdd] <;> rfl)))
 | (refine st_nil ?_)
 | (apply st_a; (case hc => rfl); (case he => (simp only [go_sem, *] <;> rfl)); (case hu => (simp only [updL_nil, updL_cons] <;> rfl)); (case hp => first | trivial))
 | (apply st_c; (case hc => (simp only [go_sem, *] <;> rfl)); (case hl => (simp only [go_sem, *] <;> rfl)); (case hn => (simp only [go_sem, *] <;> rfl)); (case hp => first | exact c0 | (have hXz := c0; simp only [go_sem, *] at hXz; exact hXz)))
 | (refine Awp.ret ?_; try simp only [go_sem, *]))
  all_goals repeat' (first | exact Lower.int (by first | rfl | (simp only [true_and, Bool.true_and, Bool.false_and, Bool.and_true, Bool.and_false, Bool.true_or, Bool.false_or, reduceIte, Bool.false_eq_true, *]; done) | (simp only [true_and, reduceIte, Bool.false_eq_true, *] <;> rfl) | (simp [true_and]; done) | (simp_all [true_and]; done) | omega))
def stepX (m x : Sty) : Sty := if decide (0 < cmpI x.b m.b) = true then x else m
def maxS (l : List Sty) (i : Nat) : Sty := (l.take i).foldl stepX (l.getD 0 zeroSty)
theorem maxS_step (l : List Sty) (i : Nat) (h : i < l.length) : maxS l (i + 1) = stepX (maxS l i) (l.getD i zeroSty) := by
  unfold maxS
  rw [take_snoc l zeroSty i h, List.foldl_append]; rfl
theorem maxS_one (l : List Sty) (h : 0 < l.length) : maxS l 1 = l.getD 0 zeroSty := by
  rw [maxS_step l 0 h]
  have e : maxS l 0 = l.getD 0 zeroSty := rfl
  rw [e]
  unfold stepX
  split <;> rfl
theorem maxf_ok (l : List Sty) (h0 : 0 < l.length) (hl : l.length < 1000000) : Pure Tryz.prog 34 [.sl (stys l), .fn 35 []] (maxS l l.length).av := by
  have hat0 := stys_at l 0 h0
  have hz0 : ((l.getD 0 zeroSty).cells).length = 8 := rfl
  have hlp : ¬ (l.length : Int) < 1 := by omega
  have hp0 : (0 : Int) < l.length := by omega
  have hb1 := maxS_one l h0
  refine fn_pure Tryz.F34 (Nat.le_of_ble_eq_true rfl) ?_; unfold Tryz.ac34 AR AM AO
  repeat' (first
 | (apply Awp.sreg; (case hn => (simp only [List.length_cons, List.length_nil, Nat.reduceAdd] <;> rfl)))
 | (refine st_nil ?_)
 | (apply st_a; (case hc => rfl); (case he => (simp only [go_sem, *] <;> rfl)); (case hu => (simp only [updL_nil, updL_cons] <;> rfl)); (case hp => first | trivial))
 | (refine Awp.skip ?_; try simp only [go_sem, *])
 | refine Awp.block ?_
 | (apply Awp.cond; (case hc => (simp only [go_sem, *] <;> rfl)); all_goals (intro hg; (try simp only [Bool.not_true, Bool.not_false, reduceCtorEq] at hg)))
 | refine Awp.seq ?_)
  refine Awp.loop (fun i : Nat => 1 ≤ i ∧ i ≤ l.length) 60 (fun i => mkS [(0, .sl (stys l)), (1, .fn 35 []), (4, .bp 0 0), (5, .bp 1 0), (6, .v (.int .i64 i))] [(0, .box [.v (.string ⟨⟨[]⟩⟩), .v (.string ⟨⟨[]⟩⟩), .v (.int .i64 0), .v (.int .i64 0), .v (.int .i64 0), .v (.int .i64 0), .v (.int .i64 0), .v (.int .i64 0)]), (1, .box (maxS l i).cells)]) (fun i => l.length - i) 1 (by omega) ?_ ?_
  · rw [hb1]
    (apply Ghost.mk [(0, 0), (1, 7)] []; (case hdead => rfl); (case hinj => rfl); (case hV => (simp only [go_sem, *]) <;> (repeat' (first | refine And.intro ?_ ?_ | exact View.int (by first | rfl | omega | (simp; done) | (rw [wrap_i64] <;> (try simp only [Int.natCast_add]) <;> omega) | (simp [*]; done)) | exact .bp rfl (by decide) | (refine View.fnF ?_; (simp [AV.flat]; done))))); (case hB => (simp only [go_sem, *]) <;> (repeat' (first | refine And.intro ?_ ?_ | exact ⟨_, rfl, BView.boxF rfl⟩))))
  · intro i ⟨h1, hi⟩
    by_cases hlt : i < l.length
    · have hlt' : (i : Int) < l.length := by omega
      have hat := stys_at l i hlt
      have hz : ((l.getD i zeroSty).cells).length = 8 := rfl
      have hs := maxS_step l i hlt
      clear hat0 hz0 hb1
      generalize maxS l i = M at *
      generalize l.getD i zeroSty = x at *
      have c1 := clos35 x M
      unfold stepX at hs
      generalize cmpI x.b M.b = k at *
      cases hk : decide (0 < k)
      · rw [hk, if_neg (by decide)] at hs
        repeat' (first
 | (apply Awp.sreg; (case hn => (simp only [List.length_cons, List.length_nil, Nat.reduceAdd] <;> rfl)))
 | (apply Awp.sdraw; (case hn => (simp only [List.length_cons, List.length_nil, Nat.reduceAdd] <;> rfl)))
 | (refine st_nil ?_)
 | (apply st_a; (case hc => rfl); (case he => (simp only [go_sem, *] <;> rfl)); (case hu => (simp only [updL_nil, updL_cons] <;> rfl)); (case hp => first | trivial))
 | (apply Awp.reg; (case hn => (simp only [List.length_cons, List.length_nil, Nat.reduceAdd] <;> rfl)))
 | (refine Awp.skip ?_; try simp only [go_sem, *])
 | refine Awp.block ?_
 | (apply Awp.cond; (case hc => (simp only [go_sem, *] <;> rfl)); all_goals (intro hg; (try simp only [Bool.not_true, Bool.not_false, reduceCtorEq] at hg)))
 | refine Awp.seq ?_
 | (apply sl_a; (case hc => rfl); (case he => (simp only [go_sem, *] <;> rfl)); (case hu => (simp only [updL_nil, updL_cons] <;> rfl)); (case hl => (simp only [List.map_cons, List.map_nil] <;> rfl)); (case hp => first | trivial | omega))
 | (apply sl_c; (case hc => (simp only [go_sem, *] <;> rfl)); (case hl => (simp only [go_sem, *] <;> rfl)); (case hn => (simp only [go_sem, *] <;> rfl)); (case hp => first | exact c1 | (have hXz := c1; simp only [go_sem, *] at hXz; exact hXz)); (case hd => first | exact .inl rfl | exact .inr (.v _) | exact .inr .any | exact .inr .nils | (refine .inr ?_; (repeat' (first | exact Dry.v _ | exact Dry.any | exact Dry.nils | exact Dry.slE | refine Dry.agg ?_ | refine Dry.tup ?_ | (refine List.forall_mem_cons.2 (And.intro ?_ ?_)) | (intro cQ hQ; cases hQ; done))); done)); (case hm => first | decide | (simp; done)))
 | (refine sl_nil (And.intro (by first | exact drawOk_of (by decide +kernel) | (simp only [List.map_cons, List.map_nil]; exact drawOk_of (by decide +kernel)) | decide) ?_)))
        all_goals (refine ⟨i + 1, by omega, by omega, ?_⟩; rw [hs]; clear hs c1; (apply Ghost.mk [(0, 0), (1, 1)] []; (case hdead => rfl); (case hinj => rfl); (case hV => (simp only [go_sem, *]) <;> (repeat' (first | refine And.intro ?_ ?_ | exact View.int (by first | rfl | omega | (simp; done) | (rw [wrap_i64] <;> (try simp only [Int.natCast_add]) <;> omega) | (simp [*]; done)) | exact .bp rfl (by decide) | (refine View.fnF ?_; (simp [AV.flat]; done))))); (case hB => (simp only [go_sem, *]) <;> (repeat' (first | refine And.intro ?_ ?_ | exact ⟨_, rfl, BView.boxF rfl⟩)))))
      · rw [hk, if_pos rfl] at hs
        repeat' (first
 | (apply Awp.sreg; (case hn => (simp only [List.length_cons, List.length_nil, Nat.reduceAdd] <;> rfl)))
 | (apply Awp.sdraw; (case hn => (simp only [List.length_cons, List.length_nil, Nat.reduceAdd] <;> rfl)))
 | (refine st_nil ?_)
 | (apply st_a; (case hc => rfl); (case he => (simp only [go_sem, *] <;> rfl)); (case hu => (simp only [updL_nil, updL_cons] <;> rfl)); (case hp => first | trivial | omega))
 | (apply Awp.reg; (case hn => (simp only [List.length_cons, List.length_nil, Nat.reduceAdd] <;> rfl)))
 | (refine Awp.skip ?_; try simp only [go_sem, *])
 | refine Awp.block ?_
 | (apply Awp.cond; (case hc => (simp only [go_sem, *] <;> rfl)); all_goals (intro hg; (try simp only [Bool.not_true, Bool.not_false, reduceCtorEq] at hg)))
 | refine Awp.seq ?_
 | (apply sl_a; (case hc => rfl); (case he => (simp only [go_sem, *] <;> rfl)); (case hu => (simp only [updL_nil, updL_cons] <;> rfl)); (case hl => (simp only [List.map_cons, List.map_nil] <;> rfl)); (case hp => first | trivial | omega))
 | (apply sl_c; (case hc => (simp only [go_sem, *] <;> rfl)); (case hl => (simp only [go_sem, *] <;> rfl)); (case hn => (simp only [go_sem, *] <;> rfl)); (case hp => first | exact c1 | (have hXz := c1; simp only [go_sem, *] at hXz; exact hXz)); (case hd => first | exact .inl rfl | exact .inr (.v _) | exact .inr .any | exact .inr .nils | (refine .inr ?_; (repeat' (first | exact Dry.v _ | exact Dry.any | exact Dry.nils | exact Dry.slE | refine Dry.agg ?_ | refine Dry.tup ?_ | (refine List.forall_mem_cons.2 (And.intro ?_ ?_)) | (intro cQ hQ; cases hQ; done))); done)); (case hm => first | decide | (simp; done)))
 | (refine sl_nil (And.intro (by first | exact drawOk_of (by decide +kernel) | (simp only [List.map_cons, List.map_nil]; exact drawOk_of (by decide +kernel)) | decide) ?_)))
        all_goals (refine ⟨i + 1, by omega, by omega, ?_⟩; rw [hs]; clear hs c1; (apply Ghost.mk [(0, 0), (1, 1)] []; (case hdead => rfl); (case hinj => rfl); (case hV => (simp only [go_sem, *]) <;> (repeat' (first | refine And.intro ?_ ?_ | exact View.int (by first | rfl | omega | (simp; done) | (rw [wrap_i64] <;> (try simp only [Int.natCast_add]) <;> omega) | (simp [*]; done)) | exact .bp rfl (by decide) | (refine View.fnF ?_; (simp [AV.flat]; done))))); (case hB => (simp only [go_sem, *]) <;> (repeat' (first | refine And.intro ?_ ?_ | exact ⟨_, rfl, BView.boxF rfl⟩)))))
    · have hlt' : ¬ (i : Int) < l.length := by omega
      obtain rfl : i = l.length := by omega
      clear hat0 hz0 hb1
      generalize maxS l l.length = M at *
      repeat' (first
 | (apply Awp.sreg; (case hn => (simp only [List.length_cons, List.length_nil, Nat.reduceAdd] <;> rfl)))
 | (refine st_nil ?_)
 | (apply st_a; (case hc => rfl); (case he => (simp only [go_sem, *] <;> rfl)); (case hu => (simp only [updL_nil, updL_cons] <;> rfl)); (case hp => first | trivial))
 | (refine Awp.ret ?_; try simp only [go_sem, *])
 | (refine Awp.exit ?_; try simp only [go_sem, *])
 | (apply Awp.cond; (case hc => (simp only [go_sem, *] <;> rfl)); all_goals (intro hg; (try simp only [Bool.not_true, Bool.not_false, reduceCtorEq] at hg)))
 | refine Awp.seq ?_)
      all_goals repeat' (first | exact Lower.int (by first | rfl | (simp only [true_and, Bool.true_and, Bool.false_and, Bool.and_true, Bool.and_false, Bool.true_or, Bool.false_or, reduceIte, Bool.false_eq_true, *]; done) | (simp only [true_and, reduceIte, Bool.false_eq_true, *] <;> rfl) | (simp [true_and]; done) | (simp_all [true_and]; done) | omega) | exact Lower.str (by first | rfl | (simp only [true_and, Bool.true_and, Bool.false_and, Bool.and_true, Bool.and_false, Bool.true_or, Bool.false_or, reduceIte, Bool.false_eq_true, *]; done) | (simp only [true_and, reduceIte, Bool.false_eq_true, *] <;> rfl) | (simp [true_and]; done) | (simp_all [true_and]; done) | omega) | refine Lower.aggF ?_ | refine All2.cons ?_ ?_ | exact All2.nil)
def spanE (l : List Sty) : Int := if l.length = 0 then 0 else (maxS l l.length).b
theorem span_ok (l : List Sty) (hl : l.length < 1000000) : Pure Tryz.prog 22 [.sl (stys l)] (.v (.int .i64 (spanE l))) := by
  unfold spanE
  by_cases h0 : l.length = 0
  · rw [if_pos h0]
    have h0' : ((l.length : Int) == 0) = true := by rw [beq_iff_eq]; omega
    clear h0
    refine fn_pure Tryz.F22 (Nat.le_of_ble_eq_true rfl) ?_; unfold Tryz.ac22 AR AM AO
    repeat' (first
 | (apply Awp.sreg; (case hn => (simp only [List.length_cons, List.length_nil, Nat.reduceAdd] <;> rfl)))
 | (refine st_nil ?_)
 | (apply st_a; (case hc => rfl); (case he => (simp only [go_sem, *] <;> rfl)); (case hu => (simp only [updL_nil, updL_cons] <;> rfl)); (case hp => first | trivial))
 | (refine Awp.ret ?_; try simp only [go_sem, *])
 | (apply Awp.cond; (case hc => (simp only [go_sem, *] <;> rfl)); all_goals (intro hg; (try simp only [Bool.not_true, Bool.not_false, reduceCtorEq] at hg); (try have hg' := hg); (try simp only [decide_eq_true_eq, decide_eq_false_iff_not, Bool.and_eq_true, Bool.or_eq_false_iff, bne_iff_ne, bne_eq_false_iff_eq, beq_iff_eq, beq_eq_false_iff_ne, Int.not_lt, Int.not_le, Int.ofNat_lt, Int.ofNat_le, Int.natCast_inj] at hg')))
 | refine Awp.seq ?_)
    all_goals repeat' (first | exact Lower.int (by first | rfl | (simp only [true_and, Bool.true_and, Bool.false_and, Bool.and_true, Bool.and_false, Bool.true_or, Bool.false_or, reduceIte, Bool.false_eq_true, *]; done) | (simp only [true_and, reduceIte, Bool.false_eq_true, *] <;> rfl) | (simp [true_and]; done) | (simp_all [true_and]; done) | omega))
  · rw [if_neg h0]
    have h0' : ((l.length : Int) == 0) = false := by rw [beq_eq_false_iff_ne]; omega
    have c0 := maxf_ok l (by omega) hl
    generalize maxS l l.length = M at *
    refine fn_pure Tryz.F22 (Nat.le_of_ble_eq_true rfl) ?_; unfold Tryz.ac22 AR AM AO
    repeat' (first
 | (apply Awp.sreg; (case hn => (simp only [List.length_cons, List.length_nil, Nat.reduceAdd] <;> rfl)))
 | (refine st_nil ?_)
 | (apply st_a; (case hc => rfl); (case he => (simp only [go_sem, *] <;> rfl)); (case hu => (simp only [updL_nil, updL_cons] <;> rfl)); (case hp => first | trivial))
 | (apply st_c; (case hc => (simp only [go_sem, *] <;> rfl)); (case hl => (simp only [go_sem, *] <;> rfl)); (case hn => (simp only [go_sem, *] <;> rfl)); (case hp => first | exact c0 | (have hXz := c0; simp only [go_sem, *] at hXz; exact hXz)))
 | (refine Awp.ret ?_; try simp only [go_sem, *])
 | (refine Awp.skip ?_; try simp only [go_sem, *])
 | (apply Awp.cond; (case hc => (simp only [go_sem, *] <;> rfl)); all_goals (intro hg; (try simp only [Bool.not_true, Bool.not_false, reduceCtorEq] at hg); (try have hg' := hg); (try simp only [decide_eq_true_eq, decide_eq_false_iff_not, Bool.and_eq_true, Bool.or_eq_false_iff, bne_iff_ne, bne_eq_false_iff_eq, beq_iff_eq, beq_eq_false_iff_ne, Int.not_lt, Int.not_le, Int.ofNat_lt, Int.ofNat_le, Int.natCast_inj] at hg')))
 | refine Awp.seq ?_)
    all_goals repeat' (first | exact Lower.int (by first | rfl | (simp only [true_and, Bool.true_and, Bool.false_and, Bool.and_true, Bool.and_false, Bool.true_or, Bool.false_or, reduceIte, Bool.false_eq_true, *]; done) | (simp only [true_and, reduceIte, Bool.false_eq_true, *] <;> rfl) | (simp [true_and]; done) | (simp_all [true_and]; done) | omega))
end Go.Proofs
namespace Go.Proofs
open Go Go.Ab
set_option maxHeartbeats 8000000
set_option maxRecDepth 100000
attribute [local irreducible] Awp aops aopsL Go.Ab.Pure PureOwn PureTwoM
def rsF (l : List Sty) : Nat → Int
  | 0 => 0
  | i + 1 => if (((i : Int) == 0) || decide (rsF l i < (l.getD i zeroSty).b)) = true then (l.getD i zeroSty).b else rsF l i
theorem same04_ok (a : List ByteArray) (ha : a.length < 1000000) : Pure Tryz.prog 15 [.sl (strs a), .sl (strs a)] (.v (.bool true)) := by
  have hne : ((a.length : Int) != a.length) = false := by simp
  refine fn_pure Tryz.F15 (Nat.le_of_ble_eq_true rfl) ?_; unfold Tryz.ac15 AR AM AO
  repeat' (first
 | (apply Awp.sreg; (case hn => (simp only [List.length_cons, List.length_nil, Nat.reduceAdd] <;> rfl)))
 | (refine st_nil ?_)
 | (apply st_a; (case hc => rfl); (case he => (simp only [go_sem, *] <;> rfl)); (case hu => (simp only [updL_nil, updL_cons] <;> rfl)); (case hp => first | trivial))
 | (refine Awp.skip ?_; try simp only [go_sem, *])
 | refine Awp.block ?_
 | (apply Awp.cond; (case hc => (simp only [go_sem, *] <;> rfl)); all_goals (intro hg; (try simp only [Bool.not_true, Bool.not_false, reduceCtorEq] at hg)))
 | refine Awp.seq ?_)
  refine Awp.loop (fun i : Nat => i ≤ a.length) 60 (fun i => mkS [(0, .sl (strs a)), (1, .sl (strs a)), (5, .v (.int .i64 i))] []) (fun i => a.length - i) 0 (Nat.zero_le _) ?_ ?_
  · (apply Ghost.mk [] []; (case hdead => rfl); (case hinj => rfl); (case hV => (simp only [go_sem, *]) <;> (repeat' (first | exact View.int (by first | rfl | omega | (simp; done) | (rw [wrap_i64] <;> (try simp only [Int.natCast_add]) <;> omega) | (simp [*]; done))))); (case hB => (simp only [go_sem, *]) <;> (repeat' (first | skip; done))))
  · intro i hi
    by_cases hlt : i < a.length
    · have hlt' : (i : Int) < a.length := by omega
      have hat := strs_at a i hlt
      generalize a.getD i ⟨#[]⟩ = x at *
      have hx : (x.toList == x.toList) = true := by simp
      repeat' (first
 | (apply Awp.sreg; (case hn => (simp only [List.length_cons, List.length_nil, Nat.reduceAdd] <;> rfl)))
 | (apply Awp.sdraw; (case hn => (simp only [List.length_cons, List.length_nil, Nat.reduceAdd] <;> rfl)))
 | (refine st_nil ?_)
 | (apply st_a; (case hc => rfl); (case he => (simp only [go_sem, *] <;> rfl)); (case hu => (simp only [updL_nil, updL_cons] <;> rfl)); (case hp => first | trivial))
 | (apply Awp.reg; (case hn => (simp only [List.length_cons, List.length_nil, Nat.reduceAdd] <;> rfl)))
 | (refine Awp.skip ?_; try simp only [go_sem, *])
 | refine Awp.block ?_
 | (apply Awp.cond; (case hc => (simp only [go_sem, *] <;> rfl)); all_goals (intro hg; (try simp only [Bool.not_true, Bool.not_false, reduceCtorEq] at hg)))
 | refine Awp.seq ?_
 | (apply sl_a; (case hc => rfl); (case he => (simp only [go_sem, *] <;> rfl)); (case hu => (simp only [updL_nil, updL_cons] <;> rfl)); (case hl => (simp only [List.map_cons, List.map_nil] <;> rfl)); (case hp => first | trivial | omega))
 | (refine sl_nil (And.intro (by first | exact drawOk_of (by decide +kernel) | (simp only [List.map_cons, List.map_nil]; exact drawOk_of (by decide +kernel)) | decide) ?_)))
      refine ⟨i + 1, by omega, by omega, ?_⟩
      (apply Ghost.mk [] []; (case hdead => rfl); (case hinj => rfl); (case hV => (simp only [go_sem, *]) <;> (repeat' (first | exact View.int (by first | rfl | omega | (simp; done) | (rw [wrap_i64] <;> (try simp only [Int.natCast_add]) <;> omega) | (simp [*]; done))))); (case hB => (simp only [go_sem, *]) <;> (repeat' (first | skip; done))))
    · have hlt' : ¬ (i : Int) < a.length := by omega
      repeat' (first
 | (apply Awp.sreg; (case hn => (simp only [List.length_cons, List.length_nil, Nat.reduceAdd] <;> rfl)))
 | (refine st_nil ?_)
 | (apply st_a; (case hc => rfl); (case he => (simp only [go_sem, *] <;> rfl)); (case hu => (simp only [updL_nil, updL_cons] <;> rfl)); (case hp => first | trivial))
 | (refine Awp.ret ?_; try simp only [go_sem, *])
 | (refine Awp.exit ?_; try simp only [go_sem, *])
 | (apply Awp.cond; (case hc => (simp only [go_sem, *] <;> rfl)); all_goals (intro hg; (try simp only [Bool.not_true, Bool.not_false, reduceCtorEq] at hg)))
 | refine Awp.seq ?_)
      all_goals repeat' (first | exact Lower.bool (by first | rfl | (simp only [true_and, Bool.true_and, Bool.false_and, Bool.and_true, Bool.and_false, Bool.true_or, Bool.false_or, reduceIte, Bool.false_eq_true, *]; done) | (simp only [true_and, reduceIte, Bool.false_eq_true, *] <;> rfl) | (simp [true_and]; done) | (simp_all [true_and]; done) | omega))
def bigWk (q : Wk) : Bool := decide ((100 : Int) < q.id.size) || decide ((20 : Int) < q.af.length)
def fewW (l : List Wk) (most : Int) : Bool := decide ((l.length : Int) ≤ most) && l.all fun q => !bigWk q
theorem fewW_bad {l : List Wk} {most : Int} {i : Nat} (hi : i < l.length) (h : bigWk (l.getD i zeroWk) = true) : fewW l most = false := by
  have : (l.all fun q => !bigWk q) = false := by
    rw [List.all_eq_false]
    exact ⟨_, getD_mem zeroWk hi, by simp only [h, Bool.not_true, Bool.false_eq_true, not_false_eq_true]⟩
  unfold fewW
  rw [this, Bool.and_false]
theorem fewW_end {l : List Wk} {most : Int} {i : Nat} (hm : (l.length : Int) ≤ most) (hi : l.length ≤ i) (h : ∀ j, j < i → bigWk (l.getD j zeroWk) = false) : fewW l most = true := by
  unfold fewW
  rw [decide_eq_true hm, Bool.true_and, List.all_eq_true]
  intro x hx
  obtain ⟨j, hj, rfl⟩ := List.getElem_of_mem hx
  have := h j (by omega)
  rw [List.getD_eq_getElem?_getD, List.getElem?_eq_getElem hj, Option.getD_some] at this
  rw [this]; rfl
theorem fewW_ok (l : List Wk) (most : Int) (hl : most < 1000000) : Pure Tryz.prog 9 [.sl (wks l), .v (.int .i64 most)] (.v (.bool (fewW l most))) := by
  by_cases hm : (l.length : Int) ≤ most
  · have hm' : decide (most < (l.length : Int)) = false := decide_eq_false (by omega)
    refine fn_pure Tryz.F9 (Nat.le_of_ble_eq_true rfl) ?_; unfold Tryz.ac9 AR AM AO
    repeat' (first
 | (apply Awp.sreg; (case hn => (simp only [List.length_cons, List.length_nil, Nat.reduceAdd] <;> rfl)))
 | (refine st_nil ?_)
 | (apply st_a; (case hc => rfl); (case he => (simp only [go_sem, *] <;> rfl)); (case hu => (simp only [updL_nil, updL_cons] <;> rfl)); (case hp => first | trivial))
 | (refine Awp.skip ?_; try simp only [go_sem, *])
 | refine Awp.block ?_
 | (apply Awp.cond; (case hc => (simp only [go_sem, *] <;> rfl)); all_goals (intro hg; (try simp only [Bool.not_true, Bool.not_false, reduceCtorEq] at hg)))
 | refine Awp.seq ?_)
    refine Awp.loop (fun i : Nat => i ≤ l.length ∧ ∀ j, j < i → bigWk (l.getD j zeroWk) = false) 60 (fun i => mkS [(0, .sl (wks l)), (5, .v (.int .i64 i))] []) (fun i => l.length - i) 0 (by simp) ?_ ?_
    · (apply Ghost.mk [] []; (case hdead => rfl); (case hinj => rfl); (case hV => (simp only [go_sem, *]) <;> (repeat' (first | exact View.int (by first | rfl | omega | (simp; done) | (rw [wrap_i64] <;> (try simp only [Int.natCast_add]) <;> omega) | (simp [*]; done))))); (case hB => (simp only [go_sem, *]) <;> (repeat' (first | skip; done))))
    · intro i ⟨hi, hj⟩
      by_cases hlt : i < l.length
      · have hlt' : (i : Int) < l.length := by omega
        have hat := wks_at l i hlt
        have hz : ((l.getD i zeroWk).cells).length = 5 := rfl
        cases hb : bigWk (l.getD i zeroWk)
        · have hnx := ltSucc hj hb
          unfold bigWk at hb
          clear hj
          repeat' (first
 | (apply Awp.sreg; (case hn => (simp only [List.length_cons, List.length_nil, Nat.reduceAdd] <;> rfl)))
 | (refine st_nil ?_)
 | (apply st_a; (case hc => rfl); (case he => (simp only [go_sem, *] <;> rfl)); (case hu => (simp only [updL_nil, updL_cons] <;> rfl)); (case hp => first | trivial | omega))
 | (apply st_m; (case hc => rfl); (case hg => (simp only [go_sem, *] <;> rfl)); (case he => (intro hQz; (try simp only [wantB_t, wantB_f, Bool.and_eq_true, Bool.not_eq_true', Bool.not_true, Bool.not_false, and_true, true_and] at hQz); simp only [go_sem, *] <;> rfl)); (case hp => (intro hQz; (try simp only [wantB_t, wantB_f, Bool.and_eq_true, Bool.not_eq_true', Bool.or_eq_false_iff, decide_eq_true_eq, decide_eq_false_iff_not, beq_iff_eq, beq_eq_false_iff_ne, bne_iff_ne, bne_eq_false_iff_eq, Int.not_lt, Int.not_le, Int.ofNat_lt, Int.ofNat_le] at hQz); first | trivial | omega)))
 | (apply Awp.reg; (case hn => (simp only [List.length_cons, List.length_nil, Nat.reduceAdd] <;> rfl)))
 | (refine Awp.skip ?_; try simp only [go_sem, *])
 | refine Awp.block ?_
 | (apply Awp.cond; (case hc => (simp only [go_sem, *] <;> rfl)); all_goals (intro hg; (try simp only [Bool.not_true, Bool.not_false, reduceCtorEq] at hg)))
 | refine Awp.seq ?_)
          refine ⟨i + 1, ⟨by omega, hnx⟩, by omega, ?_⟩
          clear hnx
          (apply Ghost.mk [] []; (case hdead => rfl); (case hinj => rfl); (case hV => (simp only [go_sem, *]) <;> (repeat' (first | exact View.int (by first | rfl | omega | (simp; done) | (rw [wrap_i64] <;> (try simp only [Int.natCast_add]) <;> omega) | (simp [*]; done))))); (case hB => (simp only [go_sem, *]) <;> (repeat' (first | skip; done))))
        · have hf := fewW_bad (most := most) hlt hb
          unfold bigWk at hb
          clear hj
          repeat' (first
 | (apply Awp.sreg; (case hn => (simp only [List.length_cons, List.length_nil, Nat.reduceAdd] <;> rfl)))
 | (refine st_nil ?_)
 | (apply st_a; (case hc => rfl); (case he => (simp only [go_sem, *] <;> rfl)); (case hu => (simp only [updL_nil, updL_cons] <;> rfl)); (case hp => first | trivial | omega))
 | (apply st_m; (case hc => rfl); (case hg => (simp only [go_sem, *] <;> rfl)); (case he => (intro hQz; (try simp only [wantB_t, wantB_f, Bool.and_eq_true, Bool.not_eq_true', Bool.not_true, Bool.not_false, and_true, true_and] at hQz); simp only [go_sem, *] <;> rfl)); (case hp => (intro hQz; (try simp only [wantB_t, wantB_f, Bool.and_eq_true, Bool.not_eq_true', Bool.or_eq_false_iff, decide_eq_true_eq, decide_eq_false_iff_not, beq_iff_eq, beq_eq_false_iff_ne, bne_iff_ne, bne_eq_false_iff_eq, Int.not_lt, Int.not_le, Int.ofNat_lt, Int.ofNat_le] at hQz); first | trivial | omega)))
 | (refine Awp.ret ?_; try simp only [go_sem, *])
 | (refine Awp.skip ?_; try simp only [go_sem, *])
 | refine Awp.block ?_
 | (apply Awp.cond; (case hc => (simp only [go_sem, *] <;> rfl)); all_goals (intro hg; (try simp only [Bool.not_true, Bool.not_false, reduceCtorEq] at hg)))
 | refine Awp.seq ?_)
          all_goals repeat' (first | exact Lower.bool (by first | rfl | (simp only [true_and, Bool.true_and, Bool.false_and, Bool.and_true, Bool.and_false, Bool.true_or, Bool.false_or, reduceIte, Bool.false_eq_true, *]; done) | (simp only [true_and, reduceIte, Bool.false_eq_true, *] <;> rfl) | (simp [true_and]; done) | (simp_all [true_and]; done) | omega))
      · have hlt' : ¬ (i : Int) < l.length := by omega
        have hf := fewW_end hm (Nat.le_of_not_lt hlt) hj
        clear hj
        repeat' (first
 | (apply Awp.sreg; (case hn => (simp only [List.length_cons, List.length_nil, Nat.reduceAdd] <;> rfl)))
 | (refine st_nil ?_)
 | (apply st_a; (case hc => rfl); (case he => (simp only [go_sem, *] <;> rfl)); (case hu => (simp only [updL_nil, updL_cons] <;> rfl)); (case hp => first | trivial))
 | (refine Awp.ret ?_; try simp only [go_sem, *])
 | (refine Awp.exit ?_; try simp only [go_sem, *])
 | (apply Awp.cond; (case hc => (simp only [go_sem, *] <;> rfl)); all_goals (intro hg; (try simp only [Bool.not_true, Bool.not_false, reduceCtorEq] at hg)))
 | refine Awp.seq ?_)
        all_goals repeat' (first | exact Lower.bool (by first | rfl | (simp only [true_and, Bool.true_and, Bool.false_and, Bool.and_true, Bool.and_false, Bool.true_or, Bool.false_or, reduceIte, Bool.false_eq_true, *]; done) | (simp only [true_and, reduceIte, Bool.false_eq_true, *] <;> rfl) | (simp [true_and]; done) | (simp_all [true_and]; done) | omega))
  · have hm' : decide (most < (l.length : Int)) = true := decide_eq_true (by omega)
    have hf : fewW l most = false := by unfold fewW; rw [decide_eq_false hm, Bool.false_and]
    refine fn_pure Tryz.F9 (Nat.le_of_ble_eq_true rfl) ?_; unfold Tryz.ac9 AR AM AO
    repeat' (first
 | (apply Awp.sreg; (case hn => (simp only [List.length_cons, List.length_nil, Nat.reduceAdd] <;> rfl)))
 | (refine st_nil ?_)
 | (apply st_a; (case hc => rfl); (case he => (simp only [go_sem, *] <;> rfl)); (case hu => (simp only [updL_nil, updL_cons] <;> rfl)); (case hp => first | trivial))
 | (refine Awp.ret ?_; try simp only [go_sem, *])
 | (apply Awp.cond; (case hc => (simp only [go_sem, *] <;> rfl)); all_goals (intro hg; (try simp only [Bool.not_true, Bool.not_false, reduceCtorEq] at hg); (try have hg' := hg); (try simp only [decide_eq_true_eq, decide_eq_false_iff_not, Bool.and_eq_true, Bool.or_eq_false_iff, bne_iff_ne, bne_eq_false_iff_eq, beq_iff_eq, beq_eq_false_iff_ne, Int.not_lt, Int.not_le, Int.ofNat_lt, Int.ofNat_le, Int.natCast_inj] at hg')))
 | refine Awp.seq ?_)
    all_goals repeat' (first | exact Lower.bool (by first | rfl | (simp only [true_and, Bool.true_and, Bool.false_and, Bool.and_true, Bool.and_false, Bool.true_or, Bool.false_or, reduceIte, Bool.false_eq_true, *]; done) | (simp only [true_and, reduceIte, Bool.false_eq_true, *] <;> rfl) | (simp [true_and]; done) | (simp_all [true_and]; done) | omega))
theorem same42_ok (a : List Sty) (ha : a.length < 1000000) : Pure Tryz.prog 19 [.sl (stys a), .sl (stys a)] (.v (.bool true)) := by
  have hne : ((a.length : Int) != a.length) = false := by simp
  refine fn_pure Tryz.F19 (Nat.le_of_ble_eq_true rfl) ?_; unfold Tryz.ac19 AR AM AO
  repeat' (first
 | (apply Awp.sreg; (case hn => (simp only [List.length_cons, List.length_nil, Nat.reduceAdd] <;> rfl)))
 | (refine st_nil ?_)
 | (apply st_a; (case hc => rfl); (case he => (simp only [go_sem, *] <;> rfl)); (case hu => (simp only [updL_nil, updL_cons] <;> rfl)); (case hp => first | trivial))
 | (refine Awp.skip ?_; try simp only [go_sem, *])
 | refine Awp.block ?_
 | (apply Awp.cond; (case hc => (simp only [go_sem, *] <;> rfl)); all_goals (intro hg; (try simp only [Bool.not_true, Bool.not_false, reduceCtorEq] at hg)))
 | refine Awp.seq ?_)
  refine Awp.loop (fun i : Nat => i ≤ a.length) 60 (fun i => mkS [(0, .sl (stys a)), (1, .sl (stys a)), (5, .v (.int .i64 i))] []) (fun i => a.length - i) 0 (Nat.zero_le _) ?_ ?_
  · (apply Ghost.mk [] []; (case hdead => rfl); (case hinj => rfl); (case hV => (simp only [go_sem, *]) <;> (repeat' (first | exact View.int (by first | rfl | omega | (simp; done) | (rw [wrap_i64] <;> (try simp only [Int.natCast_add]) <;> omega) | (simp [*]; done))))); (case hB => (simp only [go_sem, *]) <;> (repeat' (first | skip; done))))
  · intro i hi
    by_cases hlt : i < a.length
    · have hlt' : (i : Int) < a.length := by omega
      have hat := stys_at a i hlt
      have hz : ((a.getD i zeroSty).cells).length = 8 := rfl
      generalize a.getD i zeroSty = x at *
      have hx : (x.item.toList == x.item.toList) = true := by simp
      have hx2 : (x.bay.toList == x.bay.toList) = true := by simp
      repeat' (first
 | (apply Awp.sreg; (case hn => (simp only [List.length_cons, List.length_nil, Nat.reduceAdd] <;> rfl)))
 | (apply Awp.sdraw; (case hn => (simp only [List.length_cons, List.length_nil, Nat.reduceAdd] <;> rfl)))
 | (refine st_nil ?_)
 | (apply st_a; (case hc => rfl); (case he => (simp only [go_sem, *] <;> rfl)); (case hu => (simp only [updL_nil, updL_cons] <;> rfl)); (case hp => first | trivial))
 | (apply Awp.reg; (case hn => (simp only [List.length_cons, List.length_nil, Nat.reduceAdd] <;> rfl)))
 | (refine Awp.ret ?_; try simp only [go_sem, *])
 | (refine Awp.skip ?_; try simp only [go_sem, *])
 | refine Awp.block ?_
 | (apply Awp.cond; (case hc => (simp only [go_sem, *] <;> rfl)); all_goals (intro hg; (try simp only [Bool.not_true, Bool.not_false, reduceCtorEq] at hg)))
 | refine Awp.seq ?_
 | (apply sl_a; (case hc => rfl); (case he => (simp only [go_sem, *] <;> rfl)); (case hu => (simp only [updL_nil, updL_cons] <;> rfl)); (case hl => (simp only [List.map_cons, List.map_nil] <;> rfl)); (case hp => first | trivial | omega))
 | (refine sl_nil (And.intro (by first | exact drawOk_of (by decide +kernel) | (simp only [List.map_cons, List.map_nil]; exact drawOk_of (by decide +kernel)) | decide) ?_)))
      all_goals (try (exfalso; simp at hg; done))
      refine ⟨i + 1, by omega, by omega, ?_⟩
      (apply Ghost.mk [] []; (case hdead => rfl); (case hinj => rfl); (case hV => (simp only [go_sem, *]) <;> (repeat' (first | exact View.int (by first | rfl | omega | (simp; done) | (rw [wrap_i64] <;> (try simp only [Int.natCast_add]) <;> omega) | (simp [*]; done))))); (case hB => (simp only [go_sem, *]) <;> (repeat' (first | skip; done))))
    · have hlt' : ¬ (i : Int) < a.length := by omega
      repeat' (first
 | (apply Awp.sreg; (case hn => (simp only [List.length_cons, List.length_nil, Nat.reduceAdd] <;> rfl)))
 | (refine st_nil ?_)
 | (apply st_a; (case hc => rfl); (case he => (simp only [go_sem, *] <;> rfl)); (case hu => (simp only [updL_nil, updL_cons] <;> rfl)); (case hp => first | trivial))
 | (refine Awp.ret ?_; try simp only [go_sem, *])
 | (refine Awp.exit ?_; try simp only [go_sem, *])
 | (apply Awp.cond; (case hc => (simp only [go_sem, *] <;> rfl)); all_goals (intro hg; (try simp only [Bool.not_true, Bool.not_false, reduceCtorEq] at hg)))
 | refine Awp.seq ?_)
      all_goals repeat' (first | exact Lower.bool (by first | rfl | (simp only [true_and, Bool.true_and, Bool.false_and, Bool.and_true, Bool.and_false, Bool.true_or, Bool.false_or, reduceIte, Bool.false_eq_true, *]; done) | (simp only [true_and, reduceIte, Bool.false_eq_true, *] <;> rfl) | (simp [true_and]; done) | (simp_all [true_and]; done) | omega))
def unI (P : List Sty) (s : ByteArray) (n : Int) : Int := P.foldl (fun n y => if (y.item.toList == s.toList) = true then imax n y.b else n) n
def untilE (af : List ByteArray) (P : List Sty) : Int := af.foldl (fun n s => unI P s n) 0
end Go.Proofs
namespace Go.Proofs
open Go Go.Ab
set_option maxHeartbeats 1000000
theorem hasK_iff {K : List ByteArray} {s : ByteArray} : hasK K s = true ↔ s ∈ K := by
  unfold hasK
  rw [List.any_eq_true]
  constructor
  · rintro ⟨x, hx, e⟩
    rw [str_eq (beq_iff_eq.1 e)]; exact hx
  · intro h; exact ⟨s, h, by simp⟩
theorem mapIx_at {K : List ByteArray} {s : ByteArray} {i : Nat} (h : mapIx K s = some i) : i < K.length ∧ K[i]? = some s := by
  have hl := mapIx_lt h
  have := List.findIdx?_eq_some_iff_getElem.1 h
  obtain ⟨h1, h2, _⟩ := this
  exact ⟨hl, by rw [List.getElem?_eq_getElem hl, str_eq (beq_iff_eq.1 h2)]⟩
theorem delW_nodup {W : List Wk} (s : ByteArray) (h : (ids W).Nodup) : (ids (delW W s)).Nodup := by
  rw [← delW_ids]
  cases mapIx (ids W) s with
  | none => exact h
  | some i => exact List.Sublist.nodup (List.eraseIdx_sublist _ _) h
theorem delW_mem {W : List Wk} {s t : ByteArray} (h : (ids W).Nodup) : t ∈ ids (delW W s) ↔ t ∈ ids W ∧ t ≠ s := by
  rw [← delW_ids]
  cases hm : mapIx (ids W) s with
  | none =>
    have hn := mapIx_none.1 hm
    constructor
    · intro ht
      refine ⟨ht, fun e => ?_⟩
      have ht : t ∈ ids W := ht
      rw [e] at ht
      rw [hasK_iff.2 ht] at hn
      cases hn
    · exact fun h => h.1
  | some i =>
    obtain ⟨hi, he⟩ := mapIx_at hm
    show t ∈ (ids W).eraseIdx i ↔ _
    rw [List.mem_eraseIdx_iff_getElem?]
    constructor
    · rintro ⟨j, hj, hjt⟩
      have hjl : j < (ids W).length := by
        rcases Nat.lt_or_ge j (ids W).length with h | h
        · exact h
        · rw [List.getElem?_eq_none h] at hjt; cases hjt
      refine ⟨List.mem_of_getElem? hjt, fun e => ?_⟩
      subst e
      exact hj ((List.getElem?_inj hjl h).1 (hjt.trans he.symm))
    · rintro ⟨ht, hne⟩
      obtain ⟨j, hj, hjt⟩ := List.getElem_of_mem ht
      refine ⟨j, fun e => ?_, by rw [List.getElem?_eq_getElem hj, hjt]⟩
      subst e
      rw [List.getElem?_eq_getElem hj, hjt] at he
      exact hne (Option.some.inj he)
theorem ids_inj {l : List Wk} (h : (ids l).Nodup) {i j : Nat} (hi : i < l.length) (hj : j < l.length) (e : (l.getD i zeroWk).id = (l.getD j zeroWk).id) : i = j := by
  have hil : i < (ids l).length := by rw [ids_len]; exact hi
  refine (List.getElem?_inj hil h).1 ?_
  unfold ids
  rw [List.getElem?_map, List.getElem?_map, List.getElem?_eq_getElem hi, List.getElem?_eq_getElem hj]
  simp only [List.getD_eq_getElem?_getD, List.getElem?_eq_getElem hi, List.getElem?_eq_getElem hj, Option.getD_some] at e
  simp [e]
end Go.Proofs
namespace Go.Proofs
open Go Go.Ab
set_option maxHeartbeats 8000000
set_option maxRecDepth 100000
attribute [local irreducible] Awp aops aopsL Go.Ab.Pure PureOwn PureTwoM
def jobAt (l : List Wk) (s : ByteArray) : Wk := l.getD (findW l s).toNat zeroWk
def shpR (l : List Wk) (x : Sty) : Bool := decide (findW l x.item < 0) || (x.len != (jobAt l x.item).len) || (x.wid != (jobAt l x.item).wid) || (x.b != IntKind.i64.wrap (x.a + (jobAt l x.item).hr))
def sameI (x y : Sty) : Bool := y.item.toList == x.item.toList
def badP (l : List Wk) (P : List Sty) (i : Nat) : Bool := shpR l (P.getD i zeroSty) || (List.range i).any fun j => sameI (P.getD i zeroSty) (P.getD j zeroSty)
def lateR (l : List Wk) (P : List Sty) (x : Sty) : Bool := decide (x.a < untilE (jobAt l x.item).af P)
def rchkF (l : List Wk) (P : List Sty) : Int := if ((P.length : Int) != (l.length : Int)) = true then 17 else if (List.range P.length).any (badP l P) = true then 17 else if P.any (lateR l P) = true then 11 else 0
def rchkE (l : List Wk) (bs : List By) (P : List Sty) : Int := if (ordE l).2 ≠ 0 then (ordE l).2 else if checkE bs P ≠ 0 then checkE bs P else rchkF l P
abbrev Ed := Nat × Nat
def nts (D : List Nat) : List (List AV) := D.map fun x => [.v (.int .i64 (x : Nat))]
@[go_sem] theorem nts_nil : nts [] = [] := rfl
def wtF (n : Nat) (T : List Bool) (E : List Ed) : List Bool := E.foldl (fun w e => if T.getD e.1 false then w else w.set e.2 true) (List.replicate n false)
def availB (n : Nat) (T : List Bool) (E : List Ed) (v : Nat) : Bool := !(T.getD v false) && !((wtF n T E).getD v false)
def dnQ (p : Nat → Bool) (n m : Nat) : Int := match (List.range' m (n - m)).find? p with
  | some v => (v : Int)
  | none => -1
def dordG (n : Nat) (E : List Ed) : Nat → List Bool → List Nat → List Nat × Int
  | 0, _, D => (D, 0)
  | k + 1, T, D => if dnQ (availB n T E) n 0 < 0 then ([], 20) else dordG n E k (T.set (dnQ (availB n T E) n 0).toNat true) (D ++ [(dnQ (availB n T E) n 0).toNat])
end Go.Proofs
namespace Go.Proofs
open Go Go.Ab
set_option maxHeartbeats 1000000
theorem getD_set_self {α : Type} {l : List α} {i : Nat} {x d : α} (h : i < l.length) : (l.set i x).getD i d = x := by
  simp [List.getD_eq_getElem?_getD, h]
theorem getD_set_ne {α : Type} {l : List α} {i j : Nat} {x d : α} (h : i ≠ j) : (l.set i x).getD j d = l.getD j d := by
  simp [List.getD_eq_getElem?_getD, List.getElem?_set, h]
theorem nodup_sub_len {α : Type} [DecidableEq α] : ∀ {A B : List α}, A.Nodup → (∀ x ∈ A, x ∈ B) → A.length ≤ B.length
  | [], _, _, _ => Nat.zero_le _
  | a :: A, B, hd, hs => by
    obtain ⟨h1, h2⟩ := List.nodup_cons.1 hd
    have hm := hs a List.mem_cons_self
    have := nodup_sub_len (A := A) (B := B.erase a) h2 fun x hx => by
      have hne : x ≠ a := fun e => h1 (by rw [← e]; exact hx)
      rw [List.mem_erase_of_ne hne]
      exact hs x (List.mem_cons_of_mem _ hx)
    rw [List.length_erase_of_mem hm] at this
    have := List.length_pos_of_mem hm
    rw [List.length_cons]; omega
theorem fold_le {α : Type} (f : α → Int) : ∀ (L : List α) (b c : Int), L.foldl (fun n x => imax n (f x)) b ≤ c ↔ b ≤ c ∧ ∀ x ∈ L, f x ≤ c
  | [], b, c => by simp
  | x :: L, b, c => by
    rw [List.foldl_cons, fold_le f L]
    have : imax b (f x) ≤ c ↔ b ≤ c ∧ f x ≤ c := by unfold imax; split <;> omega
    rw [this]
    simp only [List.mem_cons, forall_eq_or_imp]
    exact and_assoc
theorem le_ext {a b : Int} (h : ∀ c, a ≤ c ↔ b ≤ c) : a = b := Int.le_antisymm ((h b).2 (Int.le_refl _)) ((h a).1 (Int.le_refl _))
end Go.Proofs
namespace Go.Proofs
open Go Go.Ab
set_option maxHeartbeats 8000000
set_option maxRecDepth 100000
attribute [local irreducible] Awp aops aopsL Go.Ab.Pure PureOwn PureTwoM
end Go.Proofs
namespace Go.Proofs
open Go Go.Ab
set_option maxHeartbeats 1000000
/-- An order of jobs. -/
structure OrdOk (l S : List Wk) : Prop where
  nd : (ids S).Nodup
  mem : ∀ q ∈ S, q ∈ l
  all : ∀ t ∈ ids l, t ∈ ids S
  bef : ∀ k, k < S.length → ∀ s ∈ (S.getD k zeroWk).af, s ∈ ids (S.take k)
theorem take_app {α : Type} (a b : List α) (k : Nat) (h : k ≤ a.length) : (a ++ b).take k = a.take k := List.take_append_of_le_length h
theorem getD_app {α : Type} {a b : List α} {k : Nat} {d : α} (h : k < a.length) : (a ++ b).getD k d = a.getD k d := by
  simp [List.getD_eq_getElem?_getD, List.getElem?_append, h]
theorem ordG_ok {l : List Wk} (hw : ∀ q ∈ l, wantB l q = true) : ∀ (n : Nat) (W out : List Wk), (ids W).Nodup → (∀ t, t ∈ ids W ↔ t ∈ ids l ∧ t ∉ ids out) → (ids out).Nodup → (∀ q ∈ out, q ∈ l) →
    (∀ k, k < out.length → ∀ s ∈ (out.getD k zeroWk).af, s ∈ ids (out.take k)) → W.length = n → (ordG (sortW l) n W out).2 = 0 → OrdOk l (ordG (sortW l) n W out).1
  | 0, W, out, hW, hm, ho, hq, hb, hn, _ => by
    refine ⟨ho, hq, fun t ht => Classical.byContradiction fun hx => ?_, hb⟩
    have := (hm t).2 ⟨ht, hx⟩
    rw [List.length_eq_zero_iff.1 hn] at this
    cases this
  | n + 1, W, out, hW, hm, ho, hq, hb, hn, he => by
    have hstep : ordG (sortW l) (n + 1) W out = if idxF (readyB W) (sortW l) < 0 then ([], 20) else ordG (sortW l) n (delW W ((sortW l).getD (idxF (readyB W) (sortW l)).toNat zeroWk).id) (out ++ [(sortW l).getD (idxF (readyB W) (sortW l)).toNat zeroWk]) := rfl
    rw [hstep] at he ⊢
    rcases idxF_cases (readyB W) (sortW l) zeroWk with ⟨hi, _⟩ | ⟨i, hi, hlt, hrb⟩
    · rw [if_pos hi] at he; cases he
    · rw [hi, if_neg (by omega), Int.toNat_natCast] at he ⊢
      have hql : (sortW l).getD i zeroWk ∈ l := (sortW_perm l).mem_iff.1 (getD_mem _ hlt)
      generalize (sortW l).getD i zeroWk = q at *
      unfold readyB at hrb
      rw [Bool.and_eq_true, Bool.not_eq_true', List.any_eq_false] at hrb
      obtain ⟨hr1, hr2⟩ := hrb
      have hqW := hasK_iff.1 hr1
      have hqo : q.id ∉ ids out := ((hm _).1 hqW).2
      have hids : ids (out ++ [q]) = ids out ++ [q.id] := by simp [ids]
      refine ordG_ok hw n _ _ (delW_nodup _ hW) (fun t => ?_) ?_ ?_ ?_ (by have := delW_len hr1; omega) he
      · rw [delW_mem hW, hm, hids, List.mem_append, List.mem_singleton, not_or]
        exact and_assoc
      · rw [hids, List.nodup_append]
        refine ⟨ho, by simp, fun a ha b hb2 e => ?_⟩
        rw [List.mem_singleton] at hb2
        rw [e, hb2] at ha; exact hqo ha
      · intro x hx
        rcases List.mem_append.1 hx with hx | hx
        · exact hq x hx
        · rw [List.mem_singleton] at hx; rw [hx]; exact hql
      · intro k hk s hs
        rw [List.length_append, List.length_singleton] at hk
        by_cases hkl : k < out.length
        · rw [getD_app hkl] at hs
          rw [take_app _ _ _ (by omega)]
          exact hb k hkl s hs
        · have hk2 : k = out.length := by omega
          subst hk2
          have e1 : (out ++ [q]).getD out.length zeroWk = q := by simp [List.getD_eq_getElem?_getD]
          rw [e1] at hs
          rw [take_app _ _ _ (Nat.le_refl _), List.take_length]
          have h1 : s ∈ ids l := hasK_iff.1 (List.all_eq_true.1 (hw q hql) s hs)
          refine Classical.byContradiction fun hx => hr2 s hs (hasK_iff.2 ((hm s).2 ⟨h1, hx⟩))
theorem ordE_jobs {l : List Wk} (h : (ordE l).2 = 0) : jobsE l = 0 := by
  unfold ordE at h
  split at h
  · rename_i h1; exact absurd h h1
  · rename_i h1; simpa using h1
theorem ordE_ok {l : List Wk} (h : (ordE l).2 = 0) : OrdOk l (ordE l).1 := by
  have hj := ordE_jobs h
  unfold ordE at h ⊢
  rw [if_neg (by simp [hj])] at h ⊢
  exact ordG_ok (jobsE_inv hj).2.2 l.length l [] (ids_nodup hj) (fun t => by simp [ids]) (by simp [ids]) (by simp) (by simp) rfl h
theorem OrdOk.len {l S : List Wk} (h : OrdOk l S) (hl : (ids l).Nodup) : S.length = l.length := by
  have h1 : (ids S).length ≤ (ids l).length := nodup_sub_len h.nd fun t ht => by
    obtain ⟨q, hq, rfl⟩ := List.mem_map.1 ht
    exact List.mem_map.2 ⟨q, h.mem q hq, rfl⟩
  have h2 : (ids l).length ≤ (ids S).length := nodup_sub_len hl h.all
  rw [ids_len, ids_len] at h1 h2
  omega
theorem mapIx_app (K : List ByteArray) (s t : ByteArray) : mapIx (K ++ [s]) t = match mapIx K t with
  | some i => some i
  | none => if t = s then some K.length else none := by
  have e : mapIx (K ++ [s]) t = (mapIx K t).or (Option.map (fun i => i + K.length) (List.findIdx? (fun x => t.toList == x.toList) [s])) := by
    unfold mapIx; rw [List.findIdx?_append]
  rw [e]
  cases mapIx K t with
  | some i => rfl
  | none =>
    by_cases h : t = s
    · subst h; simp
    · have h2 : (t.toList == s.toList) = false := by rw [beq_eq_false_iff_ne]; exact fun e => h (str_eq e)
      simp [h, h2, List.findIdx?_cons]
theorem pK_in {K : List ByteArray} {s : ByteArray} {i : Nat} (h : mapIx K s = some i) : pK K s = K := by
  obtain ⟨h1, h2⟩ := mapIx_at h
  unfold pK
  rw [h]
  show K.set i s = K
  rw [List.getElem?_eq_getElem h1, Option.some.injEq] at h2
  rw [← h2, List.set_getElem_self]
theorem pK_out {K : List ByteArray} {s : ByteArray} (h : mapIx K s = none) : pK K s = K ++ [s] := by unfold pK; rw [h]; rfl
theorem getM_self {K : List ByteArray} {V : List Int} (hl : V.length = K.length) (s : ByteArray) (n : Int) : getM (pK K s) (pV K V s n) s = n := by
  cases h : mapIx K s with
  | some i =>
    obtain ⟨h1, h2⟩ := mapIx_at h
    rw [pK_in h]
    unfold getM pV
    rw [h]
    simp only
    exact getD_set_self (by omega)
  | none =>
    rw [pK_out h]
    unfold getM pV
    rw [mapIx_app, h]
    simp only [if_true]
    simp [List.getD_eq_getElem?_getD, ← hl]
theorem getM_ne {K : List ByteArray} {V : List Int} (hl : V.length = K.length) {s t : ByteArray} (hne : t ≠ s) (n : Int) : getM (pK K s) (pV K V s n) t = getM K V t := by
  cases h : mapIx K s with
  | some i =>
    obtain ⟨h1, h2⟩ := mapIx_at h
    rw [pK_in h]
    unfold getM pV
    rw [h]
    cases h3 : mapIx K t with
    | none => rfl
    | some j =>
      simp only
      refine getD_set_ne fun e => hne ?_
      obtain ⟨_, h4⟩ := mapIx_at h3
      rw [← e, h2] at h4
      exact (Option.some.inj h4).symm
  | none =>
    rw [pK_out h]
    unfold getM pV
    rw [mapIx_app, h]
    cases h3 : mapIx K t with
    | none => simp only [if_neg hne]
    | some j =>
      simp only
      exact getD_app (by have := (mapIx_at h3).1; omega)
def eM (S : List Wk) (s : ByteArray) : Int := getM (crG S).K (crG S).V s
def frF (f : ByteArray → Int) (af : List ByteArray) : Int := af.foldl (fun n s => imax n (f s)) 0
theorem frF_le (f : ByteArray → Int) (af : List ByteArray) (c : Int) : frF f af ≤ c ↔ 0 ≤ c ∧ ∀ s ∈ af, f s ≤ c := fold_le f af 0 c
theorem frF_congr {f g : ByteArray → Int} {af : List ByteArray} (h : ∀ s ∈ af, f s = g s) : frF f af = frF g af := by
  refine le_ext fun c => ?_
  rw [frF_le, frF_le]
  constructor <;> rintro ⟨h1, h2⟩ <;> refine ⟨h1, fun s hs => ?_⟩
  · rw [← h s hs]; exact h2 s hs
  · rw [h s hs]; exact h2 s hs
theorem frF_nonneg (f : ByteArray → Int) (af : List ByteArray) : 0 ≤ frF f af := ((frF_le f af _).1 (Int.le_refl _)).1
theorem crG_len' (S : List Wk) : (crG S).V.length = (crG S).K.length := crG_len S ⟨[], [], 0⟩ rfl
theorem eM_self {S : List Wk} {k : Nat} (h : k < S.length) : eM (S.take (k + 1)) (S.getD k zeroWk).id = IntKind.i64.wrap (frF (eM (S.take k)) (S.getD k zeroWk).af + (S.getD k zeroWk).hr) := by
  unfold eM
  rw [crG_step S k h]
  exact getM_self (crG_len' _) _ _
theorem eM_ne {S : List Wk} {k : Nat} (h : k < S.length) {t : ByteArray} (ht : t ≠ (S.getD k zeroWk).id) : eM (S.take (k + 1)) t = eM (S.take k) t := by
  unfold eM
  rw [crG_step S k h]
  exact getM_ne (crG_len' _) ht _
theorem ids_at {S : List Wk} {k : Nat} (h : k < S.length) : (S.getD k zeroWk).id ∈ ids S := List.mem_map.2 ⟨_, getD_mem _ h, rfl⟩
theorem ids_taken {S : List Wk} {k : Nat} {t : ByteArray} : t ∈ ids (S.take k) ↔ ∃ j, j < k ∧ j < S.length ∧ (S.getD j zeroWk).id = t := by
  unfold ids
  rw [List.mem_map]
  constructor
  · rintro ⟨q, hq, rfl⟩
    obtain ⟨j, hj, rfl⟩ := List.getElem_of_mem hq
    rw [List.length_take] at hj
    refine ⟨j, by omega, by omega, ?_⟩
    rw [List.getElem_take, List.getD_eq_getElem?_getD, List.getElem?_eq_getElem (by omega), Option.getD_some]
  · rintro ⟨j, h1, h2, rfl⟩
    refine ⟨_, ?_, rfl⟩
    rw [List.mem_take_iff_getElem]
    exact ⟨j, by omega, by simp [List.getD_eq_getElem?_getD, h2]⟩
theorem eM_up {S : List Wk} (hn : (ids S).Nodup) {k : Nat} {t : ByteArray} (ht : t ∈ ids (S.take k)) : ∀ j, k + j ≤ S.length → eM (S.take (k + j)) t = eM (S.take k) t
  | 0, _ => rfl
  | j + 1, hj => by
    rw [← eM_up hn ht j (by omega)]
    refine eM_ne (k := k + j) (by omega) fun e => ?_
    obtain ⟨i, h1, h2, h3⟩ := ids_taken.1 ht
    have := ids_inj hn h2 (show k + j < S.length by omega) (h3.trans e)
    omega
theorem eM_top {S : List Wk} (hn : (ids S).Nodup) {k : Nat} (hk : k ≤ S.length) {t : ByteArray} (ht : t ∈ ids (S.take k)) : eM S t = eM (S.take k) t := by
  have := eM_up hn ht (S.length - k) (by omega)
  rw [← this, show k + (S.length - k) = S.length by omega, List.take_length]
theorem eM_fix {l S : List Wk} (h : OrdOk l S) {k : Nat} (hk : k < S.length) : eM S (S.getD k zeroWk).id = IntKind.i64.wrap (frF (eM S) (S.getD k zeroWk).af + (S.getD k zeroWk).hr) := by
  rw [eM_top h.nd (k := k + 1) (by omega) (ids_taken.2 ⟨k, by omega, hk, rfl⟩), eM_self hk]
  congr 2
  refine frF_congr fun s hs => ?_
  exact (eM_top h.nd (by omega) (h.bef k hk s hs)).symm
theorem eM_val {l S : List Wk} (h : OrdOk l S) (hr : ∀ q ∈ S, 1 ≤ q.hr ∧ q.hr ≤ 1048576) (hl : S.length ≤ 200) : ∀ k, k < S.length →
    eM S (S.getD k zeroWk).id = frF (eM S) (S.getD k zeroWk).af + (S.getD k zeroWk).hr ∧ 1 ≤ eM S (S.getD k zeroWk).id ∧ eM S (S.getD k zeroWk).id ≤ (k + 1) * 1048576 := by
  intro k
  induction k using Nat.strongRecOn with
  | _ k ih =>
    intro hk
    have h1 := eM_fix h hk
    have h2 := hr _ (getD_mem zeroWk hk)
    have h3 := frF_nonneg (eM S) (S.getD k zeroWk).af
    have h4 : frF (eM S) (S.getD k zeroWk).af ≤ k * 1048576 := by
      rw [frF_le]
      refine ⟨by omega, fun s hs => ?_⟩
      obtain ⟨j, j1, j2, rfl⟩ := ids_taken.1 (h.bef k hk s hs)
      have := (ih j j1 j2).2.2
      omega
    rw [wrap_i64 (by omega) (by omega)] at h1
    refine ⟨h1, by omega, by omega⟩
theorem crG_n {l S : List Wk} (h : OrdOk l S) : ∀ k, k ≤ S.length → ∀ c, (crG (S.take k)).n ≤ c ↔ 0 ≤ c ∧ ∀ j, j < k → eM S (S.getD j zeroWk).id ≤ c
  | 0, _, c => by simp [crG]
  | k + 1, hk, c => by
    have ih := crG_n h k (by omega) c
    have e1 : (crG (S.take (k + 1))).n = imax (crG (S.take k)).n (eM S (S.getD k zeroWk).id) := by
      rw [eM_top h.nd (k := k + 1) hk (ids_taken.2 ⟨k, by omega, by omega, rfl⟩)]
      unfold eM
      rw [crG_step S k (by omega)]
      rfl
    have e2 : imax (crG (S.take k)).n (eM S (S.getD k zeroWk).id) ≤ c ↔ (crG (S.take k)).n ≤ c ∧ eM S (S.getD k zeroWk).id ≤ c := by unfold imax; split <;> omega
    rw [e1, e2, ih]
    constructor
    · rintro ⟨⟨h1, h2⟩, h3⟩
      refine ⟨h1, fun j hj => ?_⟩
      by_cases hjk : j = k
      · rw [hjk]; exact h3
      · exact h2 j (by omega)
    · rintro ⟨h1, h2⟩
      exact ⟨⟨h1, fun j hj => h2 j (by omega)⟩, h2 k (by omega)⟩
theorem crG_top {l S : List Wk} (h : OrdOk l S) (c : Int) : (crG S).n ≤ c ↔ 0 ≤ c ∧ ∀ j, j < S.length → eM S (S.getD j zeroWk).id ≤ c := by
  have := crG_n h S.length (Nat.le_refl _) c
  rwa [List.take_length] at this
theorem findW_in {l : List Wk} {s : ByteArray} (h : s ∈ ids l) : ∃ i, findW l s = (i : Nat) ∧ i < l.length ∧ (l.getD i zeroWk).id = s := by
  rcases idxF_cases (isN s) l zeroWk with ⟨h1, _⟩ | ⟨i, h1, h2, h3⟩
  · have h1 : findW l s < 0 := h1
    rw [findW_lt, hasK_iff.2 h] at h1; cases h1
  · unfold isN at h3
    exact ⟨i, h1, h2, str_eq (beq_iff_eq.1 h3)⟩
theorem findW_at {l : List Wk} (hn : (ids l).Nodup) {i : Nat} (hi : i < l.length) : findW l (l.getD i zeroWk).id = i := by
  obtain ⟨j, h1, h2, h3⟩ := findW_in (ids_at hi)
  rw [h1, ids_inj hn h2 hi h3]
theorem rng_hr {q : Wk} (h : rngW q = false) : 1 ≤ q.hr ∧ q.hr ≤ 1048576 ∧ 1 ≤ q.len ∧ q.len ≤ 524288 ∧ 1 ≤ q.wid ∧ q.wid ≤ 524288 := by
  unfold rngW at h
  simp only [Bool.or_eq_false_iff, Bool.not_eq_false', Bool.and_eq_true, decide_eq_true_eq] at h
  omega
theorem jobs_rng {l : List Wk} (h : jobsE l = 0) : ∀ q ∈ l, 1 ≤ q.hr ∧ q.hr ≤ 1048576 ∧ 1 ≤ q.len ∧ q.len ≤ 524288 ∧ 1 ≤ q.wid ∧ q.wid ≤ 524288 := by
  intro q hq
  obtain ⟨i, hi, hie⟩ := List.getElem_of_mem hq
  have := (badW_inv ((jobsE_inv h).2.1 i hi)).2.2
  have e1 : l.getD i zeroWk = q := by simp [List.getD_eq_getElem?_getD, hi, hie]
  rw [e1] at this
  exact rng_hr this
end Go.Proofs
namespace Go.Proofs
open Go Go.Ab
set_option maxHeartbeats 4000000
set_option maxRecDepth 100000
def insI (x : Int) : List Int → List Int
  | [] => [x]
  | y :: l => if x ≤ y then x :: y :: l else y :: insI x l
def isortI : List Int → List Int
  | [] => []
  | x :: l => insI x (isortI l)
theorem insI_perm (x : Int) : ∀ l, (insI x l).Perm (x :: l)
  | [] => .refl _
  | y :: l => by
    unfold insI
    split
    · exact .refl _
    · exact ((insI_perm x l).cons y).trans (.swap x y l)
theorem isortI_perm : ∀ l, (isortI l).Perm l
  | [] => .refl _
  | x :: l => (insI_perm x _).trans ((isortI_perm l).cons x)
theorem insI_asc (x : Int) : ∀ l : List Int, l.Pairwise (· ≤ ·) → (insI x l).Pairwise (· ≤ ·)
  | [], _ => by simp [insI]
  | y :: l, h => by
    rw [List.pairwise_cons] at h
    unfold insI
    split
    · rename_i hxy
      refine List.pairwise_cons.2 ⟨fun z hz => ?_, List.pairwise_cons.2 h⟩
      rcases List.mem_cons.1 hz with rfl | hz
      · exact hxy
      · exact Int.le_trans hxy (h.1 z hz)
    · rename_i hxy
      refine List.pairwise_cons.2 ⟨fun z hz => ?_, insI_asc x l h.2⟩
      rcases List.mem_cons.1 ((insI_perm x l).mem_iff.1 hz) with rfl | hz
      · omega
      · exact h.1 z hz
theorem isortI_asc : ∀ l, (isortI l).Pairwise (· ≤ ·)
  | [] => .nil
  | x :: l => insI_asc x _ (isortI_asc l)
theorem asc_perm_eq : ∀ {l m : List Int}, l.Perm m → l.Pairwise (· ≤ ·) → m.Pairwise (· ≤ ·) → l = m
  | [], m, h, _, _ => by rw [List.nil_perm.1 h]
  | a :: l, [], h, _, _ => by simp at h
  | a :: l, b :: m, h, hl, hm => by
    have hl' := List.pairwise_cons.1 hl
    have hm' := List.pairwise_cons.1 hm
    have hab : a = b := by
      rcases List.mem_cons.1 (h.mem_iff.1 (List.mem_cons.2 (.inl rfl))) with e | e
      · exact e
      · rcases List.mem_cons.1 (h.mem_iff.2 (List.mem_cons.2 (.inl rfl))) with e' | e'
        · exact e'.symm
        · have := hl'.1 b e'; have := hm'.1 a e; omega
    subst hab
    rw [asc_perm_eq ((List.perm_cons a).1 h) hl'.2 hm'.2]
theorem sortI_isort (l : List Int) : sortI l = isortI l :=
  asc_perm_eq ((List.mergeSort_perm l _).trans (isortI_perm l).symm) (sortZ_asc l) (isortI_asc l)
def spotE' (bs : List By) (l : List Sty) (x : Sty) : Sty × Bool := match scanE (placeB bs l x) (Lib.compact (isortI (lowL l x))) (Lib.compact (isortI (leftL l x))) with
  | some (X, Y) => (x.at_ X Y, true)
  | none => (zeroSty, false)
theorem spotE_eq (bs : List By) (l : List Sty) (x : Sty) : spotE bs l x = spotE' bs l x := by
  unfold spotE spotE'
  rw [sortI_isort, sortI_isort]
  all_goals (generalize scanE (placeB bs l x) (Lib.compact (isortI (lowL l x))) (Lib.compact (isortI (leftL l x))) = o; cases o <;> rfl)
def tryB' (bs : List By) (l : List Sty) (x : Sty) (h t : Int) (q : By) : Option Sty := if (spotE' bs l (x.when q.nm t (IntKind.i64.wrap (t + h)))).2 then some (spotE' bs l (x.when q.nm t (IntKind.i64.wrap (t + h)))).1 else none
theorem tryB_eq (bs : List By) (l : List Sty) (x : Sty) (h t : Int) : tryB bs l x h t = tryB' bs l x h t := by
  funext q
  unfold tryB tryB'
  rw [spotE_eq]
def fitS' (bs : List By) (l : List Sty) (x : Sty) (h : Int) : Option Sty := (Lib.compact (isortI (endsL l x.a))).findSome? fun t => bs.findSome? (tryB' bs l x h t)
theorem fitS_eq (bs : List By) (l : List Sty) (x : Sty) (h : Int) : fitS bs l x h = fitS' bs l x h := by
  unfold fitS fitS' startsZ
  rw [sortI_isort]
  congr 1
  funext t
  rw [tryB_eq]
theorem fitE_some {bs : List By} {l : List Sty} {x y : Sty} {h : Int} (h1 : checkE bs l = 0) (h2 : idB x.item = true) (h3 : fitR x h = false) (h4 : decide ((128 : Int) ≤ l.length) = false) (h5 : fitS' bs l x h = some y) : fitE bs l x h = (y, 0) := by
  unfold fitE
  rw [h1, h2, h3, h4, fitS_eq, h5]; rfl
attribute [local irreducible] Awp aops aopsL Go.Ab.Pure PureOwn
end Go.Proofs
namespace Go.Proofs
open Go Go.Ab
set_option maxHeartbeats 8000000
set_option maxRecDepth 100000
attribute [local irreducible] Awp aops aopsL Go.Ab.Pure PureOwn
theorem few_size {bs : List By} {l : List Sty} (h : fewB bs l = true) : bs.length ≤ 12 ∧ l.length ≤ 60 ∧ ∀ i, i < l.length → (l.getD i zeroSty).item.size ≤ 100 := by
  unfold fewB noneBig at h
  simp only [Bool.and_eq_true, decide_eq_true_eq, List.all_eq_true, List.mem_range] at h
  obtain ⟨⟨⟨_, h2⟩, h3⟩, h4⟩ := h
  refine ⟨by omega, by omega, fun i hi => ?_⟩
  have := h2 i (by omega)
  simp [bigSty] at this
  rw [List.getD_eq_getElem?_getD]
  omega
structure Pl where
  bays : List By
  stays : List Sty
def Pl.av (p : Pl) : AV := .agg [.sl (bys p.bays), .sl (stys p.stays)]
attribute [go_sem] Pl.av
end Go.Proofs
namespace Go.Proofs
open Go Go.Ab
def good (bs : List By) (x : Sty) : Bool := idB x.item && (findB bs x.bay).2 && !rngB x && !offB (findB bs x.bay).1 x
theorem stayE_zero (bs : List By) (l : List Sty) (x : Sty) : stayE bs l x = 0 ↔ good bs x = true ∧ ∀ q ∈ l, overB x q = false := by
  unfold stayE good
  cases idB x.item <;> cases (findB bs x.bay).2 <;> cases rngB x <;> cases offB (findB bs x.bay).1 x <;> simp
theorem cutB_symm (a la b lb : Int) : cutB a la b lb = cutB b lb a la := by unfold cutB; rw [Bool.and_comm]
theorem overB_symm (p q : Sty) : overB p q = overB q p := by
  unfold overB
  rw [cutB_symm p.x, cutB_symm p.y, Bool.beq_comm]
  cases (q.bay.toList == p.bay.toList) <;> cases decide (p.a < q.b) <;> cases decide (q.a < p.b) <;> rfl
def apart (p q : Sty) : Prop := overB p q = false
def baysOk (bs : List By) : Prop := bs.length ≤ 8 ∧ ∀ i, i < bs.length → bayAt bs i = 0
theorem checkE_iff (bs : List By) (l : List Sty) : checkE bs l = 0 ↔ baysOk bs ∧ l.length ≤ 128 ∧ (∀ x ∈ l, good bs x = true) ∧ l.Pairwise apart := by
  have hst : firstE (fun i => stayE bs (l.take i) (l.getD i zeroSty)) l.length = 0 ↔ (∀ x ∈ l, good bs x = true) ∧ l.Pairwise apart := by
    rw [firstE_zero]
    have hget : ∀ i (h : i < l.length), l.getD i zeroSty = l[i] := fun i h => by simp [List.getD_eq_getElem?_getD, h]
    constructor
    · intro h
      refine ⟨fun x hx => ?_, List.pairwise_iff_getElem.2 fun i j hi hj hij => ?_⟩
      · obtain ⟨i, hi, rfl⟩ := List.getElem_of_mem hx
        have := ((stayE_zero _ _ _).1 (h i hi)).1
        rwa [hget i hi] at this
      · have := ((stayE_zero _ _ _).1 (h j hj)).2 l[i] (List.mem_take_iff_getElem.2 ⟨i, by omega, rfl⟩)
        rw [hget j hj, overB_symm] at this
        exact this
    · rintro ⟨h1, h2⟩ i hi
      rw [stayE_zero, hget i hi]
      refine ⟨h1 _ (List.getElem_mem hi), fun q hq => ?_⟩
      obtain ⟨j, hj, rfl⟩ := List.mem_take_iff_getElem.1 hq
      have := List.pairwise_iff_getElem.1 h2 j i (by omega) hi (by omega)
      rw [overB_symm]
      exact this
  unfold checkE
  by_cases h1 : bs.length ≤ 8 ∧ l.length ≤ 128
  · rw [if_neg (by simp; omega)]
    by_cases h2 : firstE (bayAt bs) bs.length = 0
    · rw [if_neg (by rw [h2]; simp), hst]
      exact ⟨fun h => ⟨⟨h1.1, (firstE_zero _ _).1 h2⟩, h1.2, h⟩, fun h => h.2.2⟩
    · rw [if_pos (by simpa using h2)]
      exact ⟨fun h => absurd h h2, fun h => absurd ((firstE_zero _ _).2 h.1.2) h2⟩
  · rw [if_pos (by simp; omega)]
    exact ⟨fun h => by simp at h, fun h => absurd ⟨h.1.1, h.2.1⟩ h1⟩
theorem check_sub {bs : List By} {l m : List Sty} (h : checkE bs l = 0) (hs : m.Sublist l) : checkE bs m = 0 := by
  rw [checkE_iff] at h ⊢
  exact ⟨h.1, Nat.le_trans hs.length_le h.2.1, fun x hx => h.2.2.1 x (hs.subset hx), h.2.2.2.sublist hs⟩
theorem check_add {bs : List By} {l : List Sty} {x : Sty} (h : checkE bs l = 0) (hl : l.length < 128) (hx : stayE bs l x = 0) : checkE bs (l ++ [x]) = 0 := by
  rw [checkE_iff] at h ⊢
  rw [stayE_zero] at hx
  refine ⟨h.1, by simp; omega, fun y hy => ?_, ?_⟩
  · rcases List.mem_append.1 hy with hy | hy
    · exact h.2.2.1 y hy
    · rw [List.mem_singleton.1 hy]; exact hx.1
  · rw [List.pairwise_append]
    refine ⟨h.2.2.2, by simp, fun a ha b hb => ?_⟩
    rw [List.mem_singleton.1 hb]
    unfold apart
    rw [overB_symm]
    exact hx.2 a ha
theorem mem_cs (L : List Int) (Y : Int) : Y ∈ Lib.compact (sortI L) ↔ Y ∈ L := by
  show Y ∈ Lib.compact (sortZ L) ↔ Y ∈ L
  exact ((compact_sorted (sortZ L) (sortZ_asc _)).2 Y).trans (mem_sortZ _ _)
theorem mem_starts (l : List Sty) (fr t : Int) : t ∈ startsZ l fr ↔ t = fr ∨ ∃ q ∈ l, fr < q.b ∧ q.b = t := by
  unfold startsZ
  rw [mem_cs]
  unfold endsL
  simp only [List.mem_cons, List.mem_map, List.mem_filter, decide_eq_true_eq, and_assoc]
theorem over_near {x q : Sty} {X Y : Int} (h : overB (x.at_ X Y) q = true) : nearB x q = true := by
  unfold overB Sty.at_ at h
  unfold nearB
  simp only [Bool.and_eq_true, decide_eq_true_eq, beq_iff_eq] at h ⊢
  exact ⟨⟨h.1.1.1.1.symm, h.1.1.1.2⟩, h.1.1.2⟩
theorem place_stay (bs : List By) (l : List Sty) (x : Sty) (X Y : Int) : placeB bs l x X Y = true ↔ stayE bs l (x.at_ X Y) = 0 := by
  unfold placeB
  rw [beq_iff_eq, stayE_zero, stayE_zero]
  refine and_congr_right fun _ => ⟨fun h q hq => ?_, fun h q hq => h q (List.mem_filter.1 hq).1⟩
  cases ho : overB (x.at_ X Y) q
  · rfl
  · rw [← ho]; exact h q (List.mem_filter.2 ⟨hq, over_near ho⟩)
theorem scanE_some {P : Int → Int → Bool} {lw c : List Int} {o : Int × Int} (h : scanE P lw c = some o) : P o.1 o.2 = true := by
  unfold scanE at h
  obtain ⟨y, hy, hf⟩ := List.exists_of_findSome?_eq_some h
  cases hg : c.find? (fun x => P x y) with
  | none => rw [hg] at hf; simp at hf
  | some z =>
    rw [hg] at hf
    simp only [Option.map_some, Option.some.injEq] at hf
    subst hf
    exact List.find?_some (p := fun x => P x y) hg
theorem bay_wid {bs : List By} (h : baysOk bs) {nm : ByteArray} (hf : (findB bs nm).2 = true) : 1 ≤ (findB bs nm).1.len ∧ (findB bs nm).1.len ≤ 524288 ∧ 1 ≤ (findB bs nm).1.wid ∧ (findB bs nm).1.wid ≤ 524288 := by
  unfold findB at hf ⊢
  split at hf
  · simp at hf
  · rename_i hi
    rw [if_neg hi]
    dsimp only
    unfold idxF at hi ⊢
    split at hi
    · rename_i hlt
      rw [if_pos hlt]
      have hb := h.2 _ hlt
      rw [Int.toNat_natCast]
      generalize bs.findIdx _ = i at *
      unfold bayAt sideB at hb
      generalize bs.getD i zeroBy = q at *
      split at hb
      · simp at hb
      · split at hb
        · simp at hb
        · rename_i h2
          simp only [Bool.or_eq_true, Bool.not_eq_true', Bool.and_eq_false_iff, decide_eq_false_iff_not, not_or, Classical.not_not] at h2
          omega
    · simp at hi
theorem good_box {bs : List By} (hb : baysOk bs) {x : Sty} (h : good bs x = true) : 1 ≤ x.len ∧ 1 ≤ x.wid ∧ 0 ≤ x.x ∧ 0 ≤ x.y ∧ x.x + x.len ≤ (findB bs x.bay).1.len ∧ x.y + x.wid ≤ (findB bs x.bay).1.wid ∧ x.x + x.len ≤ 524288 ∧ x.y + x.wid ≤ 524288 ∧ 0 ≤ x.a ∧ x.a < x.b ∧ x.b ≤ 1048576 ∧ (findB bs x.bay).2 = true ∧ idB x.item = true := by
  unfold good at h
  simp only [Bool.and_eq_true, Bool.not_eq_true'] at h
  obtain ⟨⟨⟨h1, h2⟩, h3⟩, h4⟩ := h
  have hw := bay_wid hb h2
  unfold rngB sideB at h3
  unfold offB at h4
  generalize (findB bs x.bay).1 = q at *
  simp only [Bool.or_eq_false_iff, Bool.not_eq_false', Bool.and_eq_true, decide_eq_true_eq, decide_eq_false_iff_not] at h3 h4
  have e1 : IntKind.i64.wrap (q.len - x.len) = q.len - x.len := wrap_i64 (by omega) (by omega)
  have e2 : IntKind.i64.wrap (q.wid - x.wid) = q.wid - x.wid := wrap_i64 (by omega) (by omega)
  rw [e1, e2] at h4
  refine ⟨by omega, by omega, by omega, by omega, by omega, by omega, by omega, by omega, by omega, by omega, by omega, h2, h1⟩
theorem good_iff {bs : List By} (hb : baysOk bs) {x : Sty} : good bs x = true ↔ idB x.item = true ∧ (findB bs x.bay).2 = true ∧ 1 ≤ x.len ∧ 1 ≤ x.wid ∧ x.len ≤ 524288 ∧ x.wid ≤ 524288 ∧ 0 ≤ x.x ∧ 0 ≤ x.y ∧ x.x + x.len ≤ (findB bs x.bay).1.len ∧ x.y + x.wid ≤ (findB bs x.bay).1.wid ∧ 0 ≤ x.a ∧ x.a < x.b ∧ x.b ≤ 1048576 := by
  constructor
  · intro h
    obtain ⟨a1, a2, a3, a4, a5, a6, a7, a8, a9, a10, a11, a12, a13⟩ := good_box hb h
    exact ⟨a13, a12, a1, a2, by omega, by omega, a3, a4, a5, a6, a9, a10, a11⟩
  · rintro ⟨h1, h2, h3⟩
    have hw := bay_wid hb h2
    unfold good
    rw [h1, h2]
    unfold rngB sideB offB
    generalize (findB bs x.bay).1 = q at *
    have e1 : IntKind.i64.wrap (q.len - x.len) = q.len - x.len := wrap_i64 (by omega) (by omega)
    have e2 : IntKind.i64.wrap (q.wid - x.wid) = q.wid - x.wid := wrap_i64 (by omega) (by omega)
    rw [e1, e2]
    simp only [Bool.and_eq_true, Bool.or_eq_false_iff, Bool.not_eq_true', Bool.not_eq_false', decide_eq_true_eq, decide_eq_false_iff_not, true_and]
    omega
theorem cutB_plain {a la b lb : Int} (h1 : 0 ≤ a) (h2 : a + la ≤ 1048576) (h3 : 0 ≤ la) (h4 : 0 ≤ b) (h5 : b + lb ≤ 1048576) (h6 : 0 ≤ lb) : cutB a la b lb = true ↔ a < b + lb ∧ b < a + la := by
  unfold cutB
  rw [wrap_i64 (n := b + lb) (by omega) (by omega), wrap_i64 (n := a + la) (by omega) (by omega)]
  simp only [Bool.and_eq_true, decide_eq_true_eq]
theorem over_iff {bs : List By} (hb : baysOk bs) {p q : Sty} (hp : good bs p = true) (hq : good bs q = true) : overB p q = true ↔ p.bay.toList = q.bay.toList ∧ p.a < q.b ∧ q.a < p.b ∧ p.x < q.x + q.len ∧ q.x < p.x + p.len ∧ p.y < q.y + q.wid ∧ q.y < p.y + p.wid := by
  have g1 := good_box hb hp
  have g2 := good_box hb hq
  unfold overB
  simp only [Bool.and_eq_true, beq_iff_eq, decide_eq_true_eq]
  rw [cutB_plain (by omega) (by omega) (by omega) (by omega) (by omega) (by omega), cutB_plain (by omega) (by omega) (by omega) (by omega) (by omega) (by omega)]
  constructor
  · rintro ⟨⟨⟨⟨h1, h2⟩, h3⟩, h4, h5⟩, h6, h7⟩; exact ⟨h1, h2, h3, h4, h5, h6, h7⟩
  · rintro ⟨h1, h2, h3, h4, h5, h6, h7⟩; exact ⟨⟨⟨⟨h1, h2⟩, h3⟩, h4, h5⟩, h6, h7⟩
theorem spot_sound {bs : List By} {l : List Sty} {x : Sty} (h : (spotE bs l x).2 = true) : ∃ X Y, (spotE bs l x).1 = x.at_ X Y ∧ stayE bs l (x.at_ X Y) = 0 := by
  unfold spotE at h ⊢
  cases hs : scanE (placeB bs l x) (Lib.compact (sortI (lowL l x))) (Lib.compact (sortI (leftL l x))) with
  | none => rw [hs] at h; simp at h
  | some o => exact ⟨o.1, o.2, rfl, (place_stay _ _ _ _ _).1 (scanE_some hs)⟩
theorem fit_sound {bs : List By} {l : List Sty} {x y : Sty} {h : Int} (hf : fitS bs l x h = some y) : ∃ t q X Y, t ∈ startsZ l x.a ∧ q ∈ bs ∧ y = (x.when q.nm t (IntKind.i64.wrap (t + h))).at_ X Y ∧ stayE bs l y = 0 := by
  unfold fitS at hf
  obtain ⟨t, ht, hf⟩ := List.exists_of_findSome?_eq_some hf
  obtain ⟨q, hq, hf⟩ := List.exists_of_findSome?_eq_some hf
  unfold tryB at hf
  split at hf
  · rename_i hs
    obtain ⟨X, Y, e, hst⟩ := spot_sound hs
    simp only [Option.some.injEq] at hf
    subst hf
    exact ⟨t, q, X, Y, ht, hq, e, by rw [e]; exact hst⟩
  · cases hf
end Go.Proofs
namespace Go.Proofs
open Go Go.Ab
set_option maxHeartbeats 1000000
theorem getS_self {K : List ByteArray} {V : List Sty} (hl : V.length = K.length) (s : ByteArray) (n : Sty) : getS (pK K s) (pV K V s n) s = n := by
  cases h : mapIx K s with
  | some i =>
    obtain ⟨h1, h2⟩ := mapIx_at h
    rw [pK_in h]
    unfold getS pV
    rw [h]
    simp only
    exact getD_set_self (by omega)
  | none =>
    rw [pK_out h]
    unfold getS pV
    rw [mapIx_app, h]
    simp only [if_true]
    simp [List.getD_eq_getElem?_getD, ← hl]
theorem getS_ne {K : List ByteArray} {V : List Sty} (hl : V.length = K.length) {s t : ByteArray} (hne : t ≠ s) (n : Sty) : getS (pK K s) (pV K V s n) t = getS K V t := by
  cases h : mapIx K s with
  | some i =>
    obtain ⟨h1, h2⟩ := mapIx_at h
    rw [pK_in h]
    unfold getS pV
    rw [h]
    cases h3 : mapIx K t with
    | none => rfl
    | some j =>
      simp only
      refine getD_set_ne fun e => hne ?_
      obtain ⟨_, h4⟩ := mapIx_at h3
      rw [← e, h2] at h4
      exact (Option.some.inj h4).symm
  | none =>
    rw [pK_out h]
    unfold getS pV
    rw [mapIx_app, h]
    cases h3 : mapIx K t with
    | none => simp only [if_neg hne]
    | some j =>
      simp only
      exact getD_app (by have := (mapIx_at h3).1; omega)
theorem pK_mem {K : List ByteArray} {s t : ByteArray} : t ∈ pK K s ↔ t ∈ K ∨ t = s := by
  cases h : mapIx K s with
  | some i =>
    rw [pK_in h]
    refine ⟨.inl, fun h2 => h2.elim id fun e => ?_⟩
    obtain ⟨_, h3⟩ := mapIx_at h
    rw [e]; exact List.mem_of_getElem? h3
  | none => rw [pK_out h, List.mem_append, List.mem_singleton]
def its (P : List Sty) : List ByteArray := P.map (·.item)
theorem its_len (P : List Sty) : (its P).length = P.length := by simp [its]
theorem getD_at {α : Type} {l : List α} {d : α} {i : Nat} (h : i < l.length) : l.getD i d = l[i] := by simp [List.getD_eq_getElem?_getD, h]
theorem its_inj {P : List Sty} (h : (its P).Nodup) {i j : Nat} (hi : i < P.length) (hj : j < P.length) (e : (P.getD i zeroSty).item = (P.getD j zeroSty).item) : i = j := by
  have hil : i < (its P).length := by rw [its_len]; exact hi
  refine (List.getElem?_inj hil h).1 ?_
  unfold its
  rw [List.getElem?_map, List.getElem?_map, List.getElem?_eq_getElem hi, List.getElem?_eq_getElem hj]
  rw [getD_at hi, getD_at hj] at e
  simp [e]
theorem its_take1 {P : List Sty} {i : Nat} (h : i < P.length) : its (P.take (i + 1)) = its (P.take i) ++ [(P.getD i zeroSty).item] := by
  unfold its
  rw [List.take_add_one, List.getElem?_eq_getElem h, getD_at h, List.map_append]; rfl
theorem smG_len' (P : List Sty) : (smG P).V.length = (smG P).K.length := smG_len P ⟨[], []⟩ rfl
theorem sm_keys (P : List Sty) : ∀ i, i ≤ P.length → (∀ t, t ∈ (smG (P.take i)).K ↔ t ∈ its (P.take i)) ∧ (smG (P.take i)).K.length ≤ i ∧ ((smG (P.take i)).K.length = i ↔ (its (P.take i)).Nodup)
  | 0, _ => by simp [smG, its]
  | i + 1, hi => by
    obtain ⟨h1, h2, h3⟩ := sm_keys P i (by omega)
    rw [smG_step P i (by omega)]
    have hlt : i < P.length := by omega
    rw [its_take1 hlt]
    generalize P.getD i zeroSty = x at *
    refine ⟨fun t => ?_, ?_⟩
    · show t ∈ pK _ _ ↔ _
      rw [pK_mem, h1, List.mem_append, List.mem_singleton]
    · show (pK _ _).length ≤ _ ∧ _
      cases h : mapIx (smG (P.take i)).K x.item with
      | some k =>
        have hK : (smS (smG (P.take i)) x).K = (smG (P.take i)).K := pK_in h
        rw [hK, pK_in h]
        have hx : x.item ∈ its (P.take i) := (h1 _).1 (List.mem_of_getElem? (mapIx_at h).2)
        refine ⟨by omega, ?_⟩
        constructor
        · omega
        · rw [List.nodup_append]
          intro hh
          exact absurd rfl (hh.2.2 _ hx x.item (by simp))
      | none =>
        have hK : (smS (smG (P.take i)) x).K = (smG (P.take i)).K ++ [x.item] := pK_out h
        rw [hK, pK_out h, List.length_append, List.length_singleton]
        have hx : x.item ∉ its (P.take i) := fun hh => by
          rw [mapIx_none, ← Bool.not_eq_true, hasK_iff, h1] at h
          exact h hh
        refine ⟨by omega, ?_⟩
        rw [List.nodup_append]
        constructor
        · intro hh
          refine ⟨h3.1 (by omega), by simp, fun a ha b hb e => ?_⟩
          rw [List.mem_singleton] at hb
          rw [e, hb] at ha; exact hx ha
        · rintro ⟨hh, _⟩
          have := h3.2 hh; omega
theorem sm_mem (P : List Sty) (t : ByteArray) : t ∈ (smG P).K ↔ t ∈ its P := by
  have := (sm_keys P P.length (Nat.le_refl _)).1 t
  rwa [List.take_length] at this
theorem sm_nd (P : List Sty) : (smG P).K.length = P.length ↔ (its P).Nodup := by
  have := (sm_keys P P.length (Nat.le_refl _)).2.2
  rwa [List.take_length] at this
theorem sm_get' {P : List Sty} (hn : (its P).Nodup) : ∀ i, i ≤ P.length → ∀ j, j < i → getS (smG (P.take i)).K (smG (P.take i)).V (P.getD j zeroSty).item = P.getD j zeroSty
  | 0, _, j, hj => by omega
  | i + 1, hi, j, hj => by
    rw [smG_step P i (by omega)]
    by_cases hji : j = i
    · subst hji
      exact getS_self (smG_len' _) _ _
    · have hne : (P.getD j zeroSty).item ≠ (P.getD i zeroSty).item := fun e => hji (its_inj hn (by omega) (by omega) e)
      rw [← sm_get' hn i (by omega) j (by omega)]
      rw [sm_get' hn i (by omega) j (by omega)]
      have := getS_ne (smG_len' (P.take i)) hne (P.getD i zeroSty)
      rw [sm_get' hn i (by omega) j (by omega)] at this
      exact this
theorem sm_get {P : List Sty} (hn : (its P).Nodup) {x : Sty} (hx : x ∈ P) : getS (smG P).K (smG P).V x.item = x := by
  obtain ⟨j, hj, rfl⟩ := List.getElem_of_mem hx
  have := sm_get' hn P.length (Nat.le_refl _) j hj
  rw [List.take_length, getD_at hj] at this
  exact this
theorem its_mem {P : List Sty} {t : ByteArray} : t ∈ its P ↔ ∃ x ∈ P, x.item = t := by unfold its; rw [List.mem_map]
/-- A valid plan. -/
structure PV (l : List Wk) (bs : List By) (P : List Sty) : Prop where
  or : (ordE l).2 = 0
  ck : checkE bs P = 0
  len : P.length = l.length
  nd : (its P).Nodup
  sh : ∀ q ∈ l, ∃ y ∈ P, y.item = q.id ∧ y.len = q.len ∧ y.wid = q.wid ∧ y.b = y.a + q.hr
  od : ∀ q ∈ l, ∀ y ∈ P, y.item = q.id → ∀ s ∈ q.af, ∀ z ∈ P, z.item = s → z.b ≤ y.a
theorem ck_rng {bs : List By} {P : List Sty} (h : checkE bs P = 0) {x : Sty} (hx : x ∈ P) : 0 ≤ x.a ∧ x.a < x.b ∧ x.b ≤ 1048576 := by
  have hC := (checkE_iff bs P).1 h
  have := good_box hC.1 (hC.2.2.1 x hx)
  omega
/-- What holds of the jobs' order. -/
theorem ord_all {l : List Wk} (hE : (ordE l).2 = 0) : jobsE l = 0 ∧ OrdOk l (ordE l).1 ∧ (ids l).Nodup ∧ (ordE l).1.length = l.length :=
  ⟨ordE_jobs hE, ordE_ok hE, ids_nodup (ordE_jobs hE), (ordE_ok hE).len (ids_nodup (ordE_jobs hE))⟩
theorem ord_mem {l : List Wk} (hE : (ordE l).2 = 0) (q : Wk) : q ∈ (ordE l).1 ↔ q ∈ l := by
  obtain ⟨_, h, hn, _⟩ := ord_all hE
  refine ⟨h.mem q, fun hq => ?_⟩
  obtain ⟨q2, hq2, e⟩ := List.mem_map.1 (h.all q.id (List.mem_map.2 ⟨q, hq, rfl⟩))
  obtain ⟨i, hi, hie⟩ := List.getElem_of_mem hq
  obtain ⟨j, hj, hje⟩ := List.getElem_of_mem (h.mem q2 hq2)
  have := ids_inj hn hi hj (by rw [getD_at hi, getD_at hj, hie, hje, e])
  subst this
  rw [hie] at hje
  rw [hje]; exact hq2
theorem job_id {l : List Wk} (hn : (ids l).Nodup) {q : Wk} (hq : q ∈ l) : jobAt l q.id = q ∧ ¬ findW l q.id < 0 := by
  obtain ⟨i, hi, hie⟩ := List.getElem_of_mem hq
  have := findW_at hn hi
  rw [getD_at hi, hie] at this
  unfold jobAt
  rw [this, Int.toNat_natCast, getD_at hi, hie]
  exact ⟨rfl, by omega⟩
theorem badS_iff {l : List Wk} {P : List Sty} {bs : List By} (hn : (ids l).Nodup) (hr : ∀ q ∈ l, 1 ≤ q.hr ∧ q.hr ≤ 1048576) (hc : checkE bs P = 0) (hd : (its P).Nodup) {q : Wk} (hq : q ∈ l) :
    badS (smG P) q = false ↔ ∃ y ∈ P, y.item = q.id ∧ y.len = q.len ∧ y.wid = q.wid ∧ y.b = y.a + q.hr := by
  unfold badS
  simp only [Bool.or_eq_false_iff, Bool.not_eq_false', bne_eq_false_iff_eq]
  rw [hasK_iff, sm_mem, its_mem]
  constructor
  · rintro ⟨⟨⟨⟨y, hy, hi⟩, h1⟩, h2⟩, h3⟩
    have hg := sm_get hd hy
    rw [hi] at hg
    rw [hg] at h1 h2 h3
    have := ck_rng hc hy
    rw [wrap_i64 (by omega) (by omega)] at h3
    exact ⟨y, hy, hi, h1, h2, by omega⟩
  · rintro ⟨y, hy, hi, h1, h2, h3⟩
    have hg := sm_get hd hy
    rw [hi] at hg
    rw [hg]
    have := ck_rng hc hy
    rw [wrap_i64 (by omega) (by omega)]
    exact ⟨⟨⟨⟨y, hy, hi⟩, h1⟩, h2⟩, by omega⟩
theorem shpR_iff {l : List Wk} {P : List Sty} {bs : List By} (hn : (ids l).Nodup) (hr : ∀ q ∈ l, 1 ≤ q.hr ∧ q.hr ≤ 1048576) (hc : checkE bs P = 0) {y : Sty} (hy : y ∈ P) :
    shpR l y = false ↔ ∃ q ∈ l, y.item = q.id ∧ y.len = q.len ∧ y.wid = q.wid ∧ y.b = y.a + q.hr := by
  unfold shpR
  simp only [Bool.or_eq_false_iff, decide_eq_false_iff_not, bne_eq_false_iff_eq]
  have hb := ck_rng hc hy
  constructor
  · rintro ⟨⟨⟨h0, h1⟩, h2⟩, h3⟩
    rw [findW_lt, Bool.not_eq_false, hasK_iff] at h0
    obtain ⟨q, hq, hqe⟩ := List.mem_map.1 h0
    have hj := (job_id hn hq).1
    rw [hqe] at hj
    rw [hj] at h1 h2 h3
    have := hr q hq
    rw [wrap_i64 (by omega) (by omega)] at h3
    exact ⟨q, hq, hqe.symm, h1, h2, h3⟩
  · rintro ⟨q, hq, hi, h1, h2, h3⟩
    have hj := job_id hn hq
    rw [hi, hj.1]
    have := hr q hq
    rw [wrap_i64 (by omega) (by omega)]
    exact ⟨⟨⟨hj.2, h1⟩, h2⟩, h3⟩
theorem unI_le (P : List Sty) (s : ByteArray) (n c : Int) : unI P s n ≤ c ↔ n ≤ c ∧ ∀ y ∈ P, y.item = s → y.b ≤ c := by
  unfold unI
  induction P generalizing n with
  | nil => simp
  | cons y P ih =>
    rw [List.foldl_cons, ih]
    cases h : (y.item.toList == s.toList)
    · have hne : y.item ≠ s := fun e => by rw [e] at h; simp at h
      rw [if_neg (by decide)]
      simp [hne]
    · have he : y.item = s := str_eq (by simpa using h)
      rw [if_pos rfl]
      have : imax n y.b ≤ c ↔ n ≤ c ∧ y.b ≤ c := by unfold imax; split <;> omega
      rw [this]
      simp only [List.mem_cons, forall_eq_or_imp, he, forall_const]
      exact and_assoc
theorem until_le (P : List Sty) (c : Int) : ∀ (af : List ByteArray) (n : Int), af.foldl (fun n s => unI P s n) n ≤ c ↔ n ≤ c ∧ ∀ s ∈ af, ∀ y ∈ P, y.item = s → y.b ≤ c
  | [], n => by simp
  | s :: af, n => by
    rw [List.foldl_cons, until_le P c af, unI_le]
    simp only [List.mem_cons, forall_eq_or_imp]
    exact and_assoc
theorem untilE_le (af : List ByteArray) (P : List Sty) (c : Int) : untilE af P ≤ c ↔ 0 ≤ c ∧ ∀ s ∈ af, ∀ y ∈ P, y.item = s → y.b ≤ c := until_le P c af 0
/-- The shape of a plan. -/
structure PShape (l : List Wk) (P : List Sty) : Prop where
  nd : (its P).Nodup
  sh : ∀ q ∈ l, ∃ y ∈ P, y.item = q.id ∧ y.len = q.len ∧ y.wid = q.wid ∧ y.b = y.a + q.hr
theorem shape_back {l : List Wk} {P : List Sty} (hn : (ids l).Nodup) (hlen : P.length = l.length) (h : PShape l P) : ∀ y ∈ P, ∃ q ∈ l, y.item = q.id ∧ y.len = q.len ∧ y.wid = q.wid ∧ y.b = y.a + q.hr := by
  intro y hy
  have h1 : y.item ∈ ids l := Classical.byContradiction fun hx => by
    have h2 : ∀ t ∈ y.item :: ids l, t ∈ its P := by
      intro t ht
      rcases List.mem_cons.1 ht with rfl | ht
      · exact its_mem.2 ⟨y, hy, rfl⟩
      · obtain ⟨q, hq, rfl⟩ := List.mem_map.1 ht
        obtain ⟨z, hz, e, _⟩ := h.sh q hq
        exact its_mem.2 ⟨z, hz, e⟩
    have := nodup_sub_len (List.nodup_cons.2 ⟨hx, hn⟩) h2
    rw [List.length_cons, its_len, ids_len] at this
    omega
  obtain ⟨q, hq, hqe⟩ := List.mem_map.1 h1
  obtain ⟨z, hz, e, r⟩ := h.sh q hq
  have hzy : z = y := by
    obtain ⟨i, hi, hie⟩ := List.getElem_of_mem hz
    obtain ⟨j, hj, hje⟩ := List.getElem_of_mem hy
    have := its_inj h.nd hi hj (by rw [getD_at hi, getD_at hj, hie, hje, e, hqe])
    subst this
    rw [← hie, ← hje]
  subst hzy
  exact ⟨q, hq, e, r⟩
theorem dup_iff (P : List Sty) : (∀ i, i < P.length → ((List.range i).any fun j => sameI (P.getD i zeroSty) (P.getD j zeroSty)) = false) ↔ (its P).Nodup := by
  have hs : ∀ x y : Sty, sameI x y = false ↔ y.item ≠ x.item := fun x y => by
    unfold sameI
    rw [beq_eq_false_iff_ne]
    exact ⟨fun h e => h (by rw [e]), fun h e => h (str_eq e)⟩
  rw [List.Nodup, List.pairwise_iff_getElem]
  constructor
  · intro h i j hi hj hij e
    rw [its_len] at hi hj
    have := h j hj
    rw [List.any_eq_false] at this
    have := this i (List.mem_range.2 hij)
    rw [Bool.not_eq_true, hs, getD_at hi, getD_at hj] at this
    exact this (by simpa [its] using e)
  · intro h i hi
    rw [List.any_eq_false]
    intro j hj
    have hj := List.mem_range.1 hj
    rw [Bool.not_eq_true, hs, getD_at hi, getD_at (show j < P.length by omega)]
    have := h j i (by rw [its_len]; omega) (by rw [its_len]; omega) hj
    simpa [its] using this
theorem pshape_iff {l : List Wk} {P : List Sty} {bs : List By} (hE : (ordE l).2 = 0) (hc : checkE bs P = 0) (hlen : P.length = l.length) :
    (¬ ((P.length : Int) != (l.length : Int) || ((smG P).K.length : Int) != (l.length : Int)) = true ∧ ¬ (ordE l).1.any (badS (smG P)) = true) ↔ PShape l P := by
  obtain ⟨hj, ho, hn, hl⟩ := ord_all hE
  have hr : ∀ q ∈ l, 1 ≤ q.hr ∧ q.hr ≤ 1048576 := fun q hq => by have := jobs_rng hj q hq; omega
  rw [Bool.not_eq_true, Bool.not_eq_true, Bool.or_eq_false_iff, bne_eq_false_iff_eq, bne_eq_false_iff_eq, List.any_eq_false]
  constructor
  · rintro ⟨⟨h1, h2⟩, h3⟩
    have hd : (its P).Nodup := (sm_nd P).1 (by omega)
    refine ⟨hd, fun q hq => (badS_iff hn hr hc hd hq).1 ?_⟩
    have := h3 q ((ord_mem hE q).2 hq)
    simpa using this
  · rintro ⟨hd, hsh⟩
    have := (sm_nd P).2 hd
    refine ⟨⟨by omega, by omega⟩, fun q hq => ?_⟩
    rw [Bool.not_eq_true]
    have hq := ho.mem q hq
    exact (badS_iff hn hr hc hd hq).2 (hsh q hq)
theorem rshape_iff {l : List Wk} {P : List Sty} {bs : List By} (hE : (ordE l).2 = 0) (hc : checkE bs P = 0) (hlen : P.length = l.length) :
    ¬ (List.range P.length).any (badP l P) = true ↔ PShape l P := by
  obtain ⟨hj, ho, hn, hl⟩ := ord_all hE
  have hr : ∀ q ∈ l, 1 ≤ q.hr ∧ q.hr ≤ 1048576 := fun q hq => by have := jobs_rng hj q hq; omega
  rw [Bool.not_eq_true, List.any_eq_false]
  constructor
  · intro h
    have h1 : ∀ i, i < P.length → shpR l (P.getD i zeroSty) = false ∧ ((List.range i).any fun j => sameI (P.getD i zeroSty) (P.getD j zeroSty)) = false := fun i hi => by
      have := h i (List.mem_range.2 hi)
      rw [Bool.not_eq_true] at this
      unfold badP at this
      rwa [Bool.or_eq_false_iff] at this
    have hd : (its P).Nodup := (dup_iff P).1 fun i hi => (h1 i hi).2
    have hb : ∀ y ∈ P, ∃ q ∈ l, y.item = q.id ∧ y.len = q.len ∧ y.wid = q.wid ∧ y.b = y.a + q.hr := by
      intro y hy
      refine (shpR_iff hn hr hc hy).1 ?_
      obtain ⟨i, hi, rfl⟩ := List.getElem_of_mem hy
      have := (h1 i hi).1
      rwa [getD_at hi] at this
    refine ⟨hd, fun q hq => ?_⟩
    have hqi : q.id ∈ its P := Classical.byContradiction fun hx => by
      have h2 : ∀ t ∈ q.id :: its P, t ∈ ids l := by
        intro t ht
        rcases List.mem_cons.1 ht with rfl | ht
        · exact List.mem_map.2 ⟨q, hq, rfl⟩
        · obtain ⟨y, hy, rfl⟩ := its_mem.1 ht
          obtain ⟨q2, hq2, e, _⟩ := hb y hy
          rw [e]; exact List.mem_map.2 ⟨q2, hq2, rfl⟩
      have := nodup_sub_len (List.nodup_cons.2 ⟨hx, hd⟩) h2
      rw [List.length_cons, its_len, ids_len] at this
      omega
    obtain ⟨y, hy, hye⟩ := its_mem.1 hqi
    obtain ⟨q2, hq2, e, r⟩ := hb y hy
    have : q2 = q := by
      have h3 := (job_id hn hq2).1
      rw [← e, hye, (job_id hn hq).1] at h3
      exact h3.symm
    subst this
    exact ⟨y, hy, hye, r⟩
  · rintro h i hi
    have hi := List.mem_range.1 hi
    rw [Bool.not_eq_true]
    unfold badP
    rw [Bool.or_eq_false_iff]
    refine ⟨?_, (dup_iff P).2 h.nd i hi⟩
    have hm : P.getD i zeroSty ∈ P := getD_mem _ hi
    exact (shpR_iff hn hr hc hm).2 (shape_back hn hlen h _ hm)
def OrdP (l : List Wk) (P : List Sty) : Prop := ∀ q ∈ l, ∀ y ∈ P, y.item = q.id → ∀ s ∈ q.af, ∀ z ∈ P, z.item = s → z.b ≤ y.a
theorem plate_iff {l : List Wk} {P : List Sty} {bs : List By} (hE : (ordE l).2 = 0) (hc : checkE bs P = 0) (hlen : P.length = l.length) (h : PShape l P) :
    ¬ (ordE l).1.any (anyLate (smG P)) = true ↔ OrdP l P := by
  obtain ⟨hj, ho, hn, hl⟩ := ord_all hE
  rw [Bool.not_eq_true, List.any_eq_false]
  constructor
  · intro h1 q hq y hy hyq s hs z hz hzs
    have := h1 q ((ord_mem hE q).2 hq)
    rw [Bool.not_eq_true] at this
    unfold anyLate at this
    rw [List.any_eq_false] at this
    have := this s hs
    unfold lateS at this
    have e1 := sm_get h.nd hy
    have e2 := sm_get h.nd hz
    rw [hyq] at e1
    rw [hzs] at e2
    rw [e1, e2] at this
    simp only [decide_eq_true_eq] at this
    omega
  · intro h1 q hq
    have hq := ho.mem q hq
    rw [Bool.not_eq_true]
    unfold anyLate
    rw [List.any_eq_false]
    intro s hs
    obtain ⟨y, hy, hyq, _⟩ := h.sh q hq
    have hsl : s ∈ ids l := hasK_iff.1 (List.all_eq_true.1 ((jobsE_inv hj).2.2 q hq) s hs)
    obtain ⟨q2, hq2, rfl⟩ := List.mem_map.1 hsl
    obtain ⟨z, hz, hzs, _⟩ := h.sh q2 hq2
    have := h1 q hq y hy hyq _ hs z hz hzs
    unfold lateS
    have e1 := sm_get h.nd hy
    have e2 := sm_get h.nd hz
    rw [hyq] at e1
    rw [hzs] at e2
    rw [e1, e2]
    simp only [decide_eq_true_eq]
    omega
theorem rlate_iff {l : List Wk} {P : List Sty} {bs : List By} (hE : (ordE l).2 = 0) (hc : checkE bs P = 0) (hlen : P.length = l.length) (h : PShape l P) :
    ¬ P.any (lateR l P) = true ↔ OrdP l P := by
  obtain ⟨hj, ho, hn, hl⟩ := ord_all hE
  rw [Bool.not_eq_true, List.any_eq_false]
  have hl : ∀ y ∈ P, ∀ q ∈ l, y.item = q.id → (¬ lateR l P y = true ↔ ∀ s ∈ q.af, ∀ z ∈ P, z.item = s → z.b ≤ y.a) := by
    intro y hy q hq e
    unfold lateR
    rw [e, (job_id hn hq).1, decide_eq_true_eq, Int.not_lt, untilE_le]
    have := ck_rng hc hy
    exact ⟨fun h => h.2, fun h => ⟨by omega, h⟩⟩
  constructor
  · intro h1 q hq y hy hyq
    exact (hl y hy q hq hyq).1 (h1 y hy)
  · intro h1 y hy
    obtain ⟨q, hq, e, _⟩ := shape_back hn hlen h y hy
    exact (hl y hy q hq e).2 (h1 q hq y hy e)
/-- The program's Check and the specification's agree. -/
theorem chk_same (l : List Wk) (bs : List By) (P : List Sty) : pchkE l bs P = rchkE l bs P := by
  unfold pchkE rchkE
  by_cases hE : (ordE l).2 = 0
  · rw [if_neg (show ¬ (ordE l).2 ≠ 0 by simp [hE]), if_neg (show ¬ (ordE l).2 ≠ 0 by simp [hE])]
    by_cases hc : checkE bs P = 0
    · rw [if_neg (show ¬ checkE bs P ≠ 0 by simp [hc]), if_neg (show ¬ checkE bs P ≠ 0 by simp [hc])]
      unfold pchkF rchkF
      by_cases hlen : P.length = l.length
      · have hs1 := pshape_iff hE hc hlen
        have hs2 := rshape_iff hE hc hlen
        have hb : ((P.length : Int) != (l.length : Int)) = false := by rw [hlen]; simp
        rw [hb, if_neg (show ¬ false = true by decide)] 
        rw [hb] at hs1
        by_cases hsh : PShape l P
        · obtain ⟨a1, a2⟩ := hs1.2 hsh
          rw [if_neg a1, if_neg a2, if_neg (hs2.2 hsh)]
          have hp := plate_iff hE hc hlen hsh
          have hq := rlate_iff hE hc hlen hsh
          by_cases ho : OrdP l P
          · rw [if_neg (hp.2 ho), if_neg (hq.2 ho)]
          · rw [if_pos (Classical.byContradiction fun hx => ho (hp.1 hx)), if_pos (Classical.byContradiction fun hx => ho (hq.1 hx))]
        · rw [if_pos (Classical.byContradiction fun hx => hsh (hs2.1 hx))]
          by_cases a1 : (false || ((smG P).K.length : Int) != (l.length : Int)) = true
          · rw [if_pos a1]
          · rw [if_neg a1, if_pos (Classical.byContradiction fun hx => hsh (hs1.1 ⟨a1, hx⟩))]
      · have hb : ((P.length : Int) != (l.length : Int)) = true := by rw [bne_iff_ne]; omega
        rw [hb, if_pos rfl, Bool.true_or, if_pos rfl]
    · rw [if_pos hc, if_pos hc]
  · rw [if_pos hE, if_pos hE]
theorem chk_zero {l : List Wk} {bs : List By} {P : List Sty} : pchkE l bs P = 0 ↔ PV l bs P := by
  rw [chk_same]
  unfold rchkE
  by_cases hE : (ordE l).2 = 0
  · rw [if_neg (by simp [hE])]
    by_cases hc : checkE bs P = 0
    · rw [if_neg (by simp [hc])]
      unfold rchkF
      by_cases hlen : P.length = l.length
      · have hs2 := rshape_iff hE hc hlen
        have hb : ((P.length : Int) != (l.length : Int)) = false := by rw [hlen]; simp
        rw [hb, if_neg (show ¬ false = true by decide)] 
        by_cases hsh : PShape l P
        · rw [if_neg (hs2.2 hsh)]
          have hq := rlate_iff hE hc hlen hsh
          by_cases ho : OrdP l P
          · rw [if_neg (hq.2 ho)]
            exact ⟨fun _ => ⟨hE, hc, hlen, hsh.nd, hsh.sh, ho⟩, fun _ => rfl⟩
          · rw [if_pos (Classical.byContradiction fun hx => ho (hq.1 hx))]
            exact ⟨fun h => by simp at h, fun h => absurd h.od ho⟩
        · rw [if_pos (Classical.byContradiction fun hx => hsh (hs2.1 hx))]
          exact ⟨fun h => by simp at h, fun h => absurd ⟨h.nd, h.sh⟩ hsh⟩
      · have hb : ((P.length : Int) != (l.length : Int)) = true := by rw [bne_iff_ne]; omega
        rw [hb, if_pos rfl]
        exact ⟨fun h => by simp at h, fun h => absurd h.len hlen⟩
    · rw [if_pos hc]
      exact ⟨fun h => absurd h hc, fun h => absurd h.ck hc⟩
  · rw [if_pos hE]
    exact ⟨fun h => absurd h hE, fun h => absurd h.or hE⟩
theorem fitE_zero {bs : List By} {l : List Sty} {x : Sty} {h : Int} (hz : (fitE bs l x h).2 = 0) : checkE bs l = 0 ∧ idB x.item = true ∧ fitR x h = false ∧ decide ((128 : Int) ≤ l.length) = false ∧ fitS bs l x h = some (fitE bs l x h).1 := by
  unfold fitE at hz ⊢
  by_cases h1 : checkE bs l = 0
  · rw [if_neg (by rw [h1]; simp)] at hz ⊢
    cases h2 : idB x.item
    · rw [h2] at hz; simp at hz
    · rw [h2] at hz
      rw [if_neg (by simp)] at hz ⊢
      cases h3 : fitR x h
      · rw [h3] at hz
        rw [if_neg (by simp)] at hz ⊢
        by_cases h4 : (128 : Int) ≤ l.length
        · rw [if_pos (by simpa using h4)] at hz; simp at hz
        · rw [if_neg (by simpa using h4)] at hz ⊢
          refine ⟨h1, rfl, rfl, by simpa using h4, ?_⟩
          cases h5 : fitS bs l x h with
          | none => rw [h5] at hz; simp at hz
          | some y => rfl
      · rw [h3] at hz; simp at hz
  · rw [if_pos (by simpa using h1)] at hz
    exact absurd hz h1
theorem fit_good {bs : List By} {l : List Sty} {x : Sty} {h : Int} (hz : (fitE bs l x h).2 = 0) : checkE bs (l ++ [(fitE bs l x h).1]) = 0 ∧ (fitE bs l x h).1.item = x.item ∧ (fitE bs l x h).1.len = x.len ∧ (fitE bs l x h).1.wid = x.wid
    ∧ (fitE bs l x h).1.b = (fitE bs l x h).1.a + h ∧ x.a ≤ (fitE bs l x h).1.a ∧ (l = [] → (fitE bs l x h).1.a = x.a) := by
  obtain ⟨h1, h2, h3, h4, h5⟩ := fitE_zero hz
  obtain ⟨t, q, X, Y, ht, hq, ey, hs⟩ := fit_sound h5
  generalize (fitE bs l x h).1 = y at *
  have h4 : l.length < 128 := by have := decide_eq_false_iff_not.1 h4; omega
  have hR : 1 ≤ h ∧ h ≤ 1048576 ∧ 0 ≤ x.a ∧ x.a ≤ 1048576 := by
    unfold fitR at h3
    simp only [Bool.or_eq_false_iff, decide_eq_false_iff_not] at h3
    omega
  have htx : x.a ≤ t ∧ t ≤ 1048576 ∧ (l = [] → t = x.a) := by
    rcases (mem_starts _ _ _).1 ht with rfl | ⟨q, hq, hq2, rfl⟩
    · exact ⟨by omega, by omega, fun _ => rfl⟩
    · have hC := (checkE_iff bs l).1 h1
      have := good_box hC.1 (hC.2.2.1 q hq)
      exact ⟨by omega, by omega, fun e => by rw [e] at hq; cases hq⟩
  refine ⟨check_add h1 h4 hs, by rw [ey]; rfl, by rw [ey]; rfl, by rw [ey]; rfl, ?_, ?_, ?_⟩
  · rw [ey]
    show IntKind.i64.wrap (t + h) = t + h
    exact wrap_i64 (by omega) (by omega)
  · rw [ey]; exact htx.1
  · intro e; rw [ey]; exact htx.2.2 e
theorem fit_err {bs : List By} {l : List Sty} {x : Sty} {h : Int} (h1 : checkE bs l = 0) (h2 : idB x.item = true) (h3 : fitR x h = false) (h4 : l.length < 128) (hne : (fitE bs l x h).2 ≠ 0) : (fitE bs l x h).2 = 18 := by
  unfold fitE at hne ⊢
  rw [if_neg (by rw [h1]; simp), if_neg (by rw [h2]; simp), if_neg (by rw [h3]; simp), if_neg (by simp; omega)] at hne ⊢
  cases h5 : fitS bs l x h with
  | none => rfl
  | some y => rw [h5] at hne; exact absurd rfl hne
def rplanG (bs : List By) : List Wk → List Sty → List Sty × Int
  | [], out => (out, 0)
  | q :: S, out => if (fitE bs out (wantS q (untilE q.af out)) q.hr).2 ≠ 0 then ([], (fitE bs out (wantS q (untilE q.af out)) q.hr).2) else rplanG bs S (out ++ [(fitE bs out (wantS q (untilE q.af out)) q.hr).1])
/-- The plan so far. -/
structure PlI (S : List Wk) (bs : List By) (i : Nat) (p : Pn) : Prop where
  ol : p.out.length = i
  vl : p.V.length = p.K.length
  it : ∀ j, j < i → (p.out.getD j zeroSty).item = (S.getD j zeroWk).id
  sz : ∀ j, j < i → (p.out.getD j zeroSty).len = (S.getD j zeroWk).len ∧ (p.out.getD j zeroSty).wid = (S.getD j zeroWk).wid ∧ (p.out.getD j zeroSty).b = (p.out.getD j zeroSty).a + (S.getD j zeroWk).hr
  en : ∀ j, j < i → getM p.K p.V (S.getD j zeroWk).id = (p.out.getD j zeroSty).b
  ck : checkE bs p.out = 0
  od : ∀ j, j < i → ∀ s ∈ (S.getD j zeroWk).af, ∀ k, k < i → (S.getD k zeroWk).id = s → (p.out.getD k zeroSty).b ≤ (p.out.getD j zeroSty).a
  z0 : 0 < i → (p.out.getD 0 zeroSty).a = 0
theorem mem_at {α : Type} {l : List α} {x d : α} (h : x ∈ l) : ∃ j, j < l.length ∧ l.getD j d = x := by
  obtain ⟨j, hj, rfl⟩ := List.getElem_of_mem h
  exact ⟨j, hj, getD_at hj⟩
theorem frst_until {l S : List Wk} {bs : List By} {i : Nat} {p : Pn} (ho : OrdOk l S) (h : PlI S bs i p) (hi : i < S.length) : frstM p.K p.V (S.getD i zeroWk).af = untilE (S.getD i zeroWk).af p.out := by
  refine le_ext fun c => ?_
  have e1 : frstM p.K p.V (S.getD i zeroWk).af ≤ c ↔ 0 ≤ c ∧ ∀ s ∈ (S.getD i zeroWk).af, getM p.K p.V s ≤ c := frF_le (getM p.K p.V) _ c
  rw [e1, untilE_le]
  refine and_congr_right fun _ => ⟨fun h1 s hs y hy hys => ?_, fun h1 s hs => ?_⟩
  · obtain ⟨j, j1, j2, e⟩ := ids_taken.1 (ho.bef i hi s hs)
    obtain ⟨m, m1, m2⟩ := mem_at (d := zeroSty) hy
    have hm : (p.out.getD m zeroSty).item = (S.getD m zeroWk).id := h.it m (by rw [← h.ol]; exact m1)
    rw [m2, hys, ← e] at hm
    have := ids_inj ho.nd j2 (by have := h.ol; omega) hm
    subst this
    have := h1 s hs
    rw [← e, h.en j j1, m2] at this
    exact this
  · obtain ⟨j, j1, j2, e⟩ := ids_taken.1 (ho.bef i hi s hs)
    rw [← e, h.en j j1]
    refine h1 s hs _ (getD_mem _ (by rw [h.ol]; exact j1)) ?_
    rw [h.it j j1, e]
theorem frst_rng {l S : List Wk} {bs : List By} {i : Nat} {p : Pn} (ho : OrdOk l S) (h : PlI S bs i p) (hi : i < S.length) : 0 ≤ frstM p.K p.V (S.getD i zeroWk).af ∧ frstM p.K p.V (S.getD i zeroWk).af ≤ 1048576 ∧ (i = 0 → frstM p.K p.V (S.getD i zeroWk).af = 0) := by
  refine ⟨frF_nonneg (getM p.K p.V) _, ?_, fun e => ?_⟩
  · rw [frst_until ho h hi, untilE_le]
    exact ⟨by omega, fun s _ y hy _ => (ck_rng h.ck hy).2.2⟩
  · have h1 := frF_nonneg (getM p.K p.V) (S.getD i zeroWk).af
    have h2 : frF (getM p.K p.V) (S.getD i zeroWk).af ≤ 0 := by
      rw [frF_le]
      refine ⟨by omega, fun s hs => ?_⟩
      obtain ⟨j, j1, _⟩ := ids_taken.1 (ho.bef i hi s hs)
      omega
    exact Int.le_antisymm h2 h1
theorem job_fit {l : List Wk} (hj : jobsE l = 0) {q : Wk} (hq : q ∈ l) {t : Int} (h0 : 0 ≤ t) (h1 : t ≤ 1048576) : idB (wantS q t).item = true ∧ fitR (wantS q t) q.hr = false := by
  have hr := jobs_rng hj q hq
  obtain ⟨i, hi, hie⟩ := List.getElem_of_mem hq
  have := (badW_inv ((jobsE_inv hj).2.1 i hi)).1
  rw [getD_at hi, hie] at this
  refine ⟨this, ?_⟩
  unfold fitR sideB wantS
  simp only [Bool.or_eq_false_iff, Bool.not_eq_false', Bool.and_eq_true, decide_eq_true_eq, decide_eq_false_iff_not]
  omega
theorem plI_step {l S : List Wk} {bs : List By} {i : Nat} {p : Pn} (hj : jobsE l = 0) (ho : OrdOk l S) (hl : S.length ≤ 128) (h : PlI S bs i p) (hi : i < S.length)
    (hz : (fitE bs p.out (wantS (S.getD i zeroWk) (frstM p.K p.V (S.getD i zeroWk).af)) (S.getD i zeroWk).hr).2 = 0) :
    PlI S bs (i + 1) ⟨pK p.K (S.getD i zeroWk).id, pV p.K p.V (S.getD i zeroWk).id (fitE bs p.out (wantS (S.getD i zeroWk) (frstM p.K p.V (S.getD i zeroWk).af)) (S.getD i zeroWk).hr).1.b, p.out ++ [(fitE bs p.out (wantS (S.getD i zeroWk) (frstM p.K p.V (S.getD i zeroWk).af)) (S.getD i zeroWk).hr).1]⟩ := by
  obtain ⟨g1, g2, g3, g4, g5, g6, g7⟩ := fit_good hz
  have hfr := frst_rng ho h hi
  have hbd : ∀ s ∈ (S.getD i zeroWk).af, getM p.K p.V s ≤ frstM p.K p.V (S.getD i zeroWk).af := ((frF_le (getM p.K p.V) (S.getD i zeroWk).af _).1 (Int.le_refl _)).2
  generalize hy : (fitE bs p.out (wantS (S.getD i zeroWk) (frstM p.K p.V (S.getD i zeroWk).af)) (S.getD i zeroWk).hr).1 = y at *
  have hol := h.ol
  have hold : ∀ j, j < i → (p.out ++ [y]).getD j zeroSty = p.out.getD j zeroSty := fun j hj => getD_app (by omega)
  have hnew : (p.out ++ [y]).getD i zeroSty = y := by rw [← hol]; simp [List.getD_eq_getElem?_getD]
  have hcases : ∀ j, j < i + 1 → j < i ∨ j = i := fun j hj => by omega
  have hself : ∀ k, k < S.length → ∀ s ∈ (S.getD k zeroWk).af, ∀ m, k ≤ m → m < S.length → (S.getD m zeroWk).id ≠ s := by
    intro k hk s hs m hm hml e
    obtain ⟨j, j1, j2, e2⟩ := ids_taken.1 (ho.bef k hk s hs)
    have := ids_inj ho.nd hml j2 (e.trans e2.symm)
    omega
  refine ⟨by simp only; rw [List.length_append, List.length_singleton]; omega, pV_len _ _ _ _ h.vl, ?_, ?_, ?_, g1, ?_, ?_⟩
  · intro j hj
    simp only
    rcases hcases j hj with hj | rfl
    · rw [hold j hj]; exact h.it j hj
    · rw [hnew, g2]; rfl
  · intro j hj
    simp only
    rcases hcases j hj with hj | rfl
    · rw [hold j hj]; exact h.sz j hj
    · rw [hnew]; exact ⟨g3, g4, g5⟩
  · intro j hj
    simp only
    rcases hcases j hj with hj | rfl
    · rw [hold j hj, getM_ne h.vl]
      · exact h.en j hj
      · intro e
        have := ids_inj ho.nd (show j < S.length by omega) hi e
        omega
    · rw [hnew]; exact getM_self h.vl _ _
  · intro j hj s hs k hk e
    simp only
    rcases hcases k hk with hk | rfl
    · rcases hcases j hj with hj | rfl
      · rw [hold j hj, hold k hk]; exact h.od j hj s hs k hk e
      · rw [hold k hk, hnew]
        have h1 := hbd s hs
        rw [← e, h.en k hk] at h1
        have h2 : (wantS (S.getD j zeroWk) (frstM p.K p.V (S.getD j zeroWk).af)).a = frstM p.K p.V (S.getD j zeroWk).af := rfl
        omega
    · exact absurd e (hself j (by omega) s hs k (by omega) hi)
  · intro _
    simp only
    by_cases h0 : i = 0
    · subst h0
      rw [hnew, g7 (List.length_eq_zero_iff.1 hol)]
      exact hfr.2.2 rfl
    · rw [hold 0 (by omega)]; exact h.z0 (by omega)
theorem drop_at {S : List Wk} {i : Nat} (h : i < S.length) : S.drop i = S.getD i zeroWk :: S.drop (i + 1) := by
  rw [List.drop_eq_getElem_cons h, getD_at h]
theorem plan_run {l S : List Wk} {bs : List By} (hj : jobsE l = 0) (ho : OrdOk l S) (hl : S.length ≤ 128) : ∀ (n i : Nat) (p : Pn), S.length - i = n → i ≤ S.length → PlI S bs i p →
    planG bs (S.drop i) p = rplanG bs (S.drop i) p.out ∧ ((planG bs (S.drop i) p).2 = 0 → ∃ p', PlI S bs S.length p' ∧ (planG bs (S.drop i) p).1 = p'.out) ∧ ((planG bs (S.drop i) p).2 ≠ 0 → (planG bs (S.drop i) p).1 = [])
  | 0, i, p, hn, hi, h => by
    have e : S.drop i = [] := List.drop_eq_nil_of_le (by omega)
    have ei : i = S.length := by omega
    rw [e]
    subst ei
    exact ⟨rfl, fun _ => ⟨p, h, rfl⟩, fun hne => absurd rfl hne⟩
  | n + 1, i, p, hn, hi, h => by
    have hlt : i < S.length := by omega
    rw [drop_at hlt]
    have hu := frst_until ho h hlt
    have hr := frst_rng ho h hlt
    have hf := job_fit hj (ho.mem _ (getD_mem zeroWk hlt)) hr.1 hr.2.1
    have hstep := plI_step hj ho hl h hlt
    unfold planG rplanG
    rw [← hu]
    by_cases hz : (fitE bs p.out (wantS (S.getD i zeroWk) (frstM p.K p.V (S.getD i zeroWk).af)) (S.getD i zeroWk).hr).2 = 0
    · rw [if_neg (fun hne => hne hz), if_neg (fun hne => hne hz)]
      exact plan_run hj ho hl n (i + 1) _ (by omega) (by omega) (hstep hz)
    · have he := fit_err h.ck hf.1 hf.2 (by have := h.ol; omega) hz
      rw [if_pos hz, if_pos hz, he]
      exact ⟨rfl, fun h => by simp at h, fun _ => rfl⟩
theorem plan0 {S : List Wk} {bs : List By} (h : checkE bs [] = 0) : PlI S bs 0 ⟨[], [], []⟩ :=
  ⟨rfl, rfl, fun j hj => by omega, fun j hj => by omega, fun j hj => by omega, h, fun j hj => by omega, fun h => by omega⟩
theorem plan_ord {l : List Wk} {bs : List By} (h : (planE l bs).2 = 0) : (ordE l).2 = 0 := by
  refine Classical.byContradiction fun hE => ?_
  unfold planE at h
  rw [if_pos hE] at h
  exact hE h
/-- A plan is right, and its stays are in the jobs' order. -/
theorem plan_good {l : List Wk} {bs : List By} (h : (planE l bs).2 = 0) : ∃ p, PlI (ordE l).1 bs (ordE l).1.length p ∧ (planE l bs).1 = p.out := by
  have hE := plan_ord h
  obtain ⟨hj, ho, hn, hl⟩ := ord_all hE
  have h128 := (jobsE_inv hj).1
  unfold planE at h ⊢
  rw [if_neg (show ¬ (ordE l).2 ≠ 0 by simp [hE])] at h ⊢
  by_cases hc : checkE bs [] = 0
  · rw [if_neg (show ¬ checkE bs [] ≠ 0 by simp [hc])] at h ⊢
    exact (plan_run hj ho (by omega) _ 0 ⟨[], [], []⟩ rfl (Nat.zero_le _) (plan0 hc)).2.1 h
  · rw [if_pos hc] at h; exact absurd h hc
theorem plan_bad {l : List Wk} {bs : List By} (h : (planE l bs).2 ≠ 0) : (planE l bs).1 = [] := by
  unfold planE at h ⊢
  by_cases hE : (ordE l).2 = 0
  · rw [if_neg (show ¬ (ordE l).2 ≠ 0 by simp [hE])] at h ⊢
    by_cases hc : checkE bs [] = 0
    · rw [if_neg (show ¬ checkE bs [] ≠ 0 by simp [hc])] at h ⊢
      obtain ⟨hj, ho, hn, hl⟩ := ord_all hE
      have h128 := (jobsE_inv hj).1
      exact (plan_run hj ho (by omega) _ 0 ⟨[], [], []⟩ rfl (Nat.zero_le _) (plan0 hc)).2.2 h
    · rw [if_pos hc]
  · rw [if_pos hE]
theorem plI_its {S : List Wk} {bs : List By} {p : Pn} (h : PlI S bs S.length p) : its p.out = ids S := by
  have hol := h.ol
  refine List.ext_getElem (by rw [its_len, ids_len, hol]) fun j h1 h2 => ?_
  rw [its_len] at h1
  rw [ids_len] at h2
  have := h.it j h2
  rw [getD_at h1, getD_at h2] at this
  simpa [its, ids] using this
theorem plI_pv {l : List Wk} {bs : List By} {p : Pn} (hE : (ordE l).2 = 0) (h : PlI (ordE l).1 bs (ordE l).1.length p) : PV l bs p.out := by
  obtain ⟨hj, ho, hn, hl⟩ := ord_all hE
  have hol := h.ol
  have hit := plI_its h
  have hat : ∀ y ∈ p.out, ∀ k, k < (ordE l).1.length → y.item = ((ordE l).1.getD k zeroWk).id → y = p.out.getD k zeroSty := by
    intro y hy k hk e
    obtain ⟨m, m1, m2⟩ := mem_at (d := zeroSty) hy
    have h1 := h.it m (by omega)
    rw [m2, e] at h1
    have := ids_inj ho.nd hk (by omega) h1
    rw [this, m2]
  refine ⟨hE, h.ck, by omega, by rw [hit]; exact ho.nd, ?_, ?_⟩
  · intro q hq
    obtain ⟨k, k1, k2⟩ := mem_at (d := zeroWk) ((ord_mem hE q).2 hq)
    refine ⟨p.out.getD k zeroSty, getD_mem _ (by omega), ?_⟩
    have h1 := h.it k k1
    have h2 := h.sz k k1
    rw [k2] at h1 h2
    exact ⟨h1, h2⟩
  · intro q hq y hy hyq s hs z hz hzs
    obtain ⟨k, k1, k2⟩ := mem_at (d := zeroWk) ((ord_mem hE q).2 hq)
    have e1 := hat y hy k k1 (by rw [k2]; exact hyq)
    obtain ⟨m, m1, m2, m3⟩ := ids_taken.1 (ho.bef k k1 s (by rw [k2]; exact hs))
    have e2 := hat z hz m m2 (by rw [m3]; exact hzs)
    rw [e1, e2]
    exact h.od k k1 s (by rw [k2]; exact hs) m m2 m3
theorem maxS_ge (l : List Sty) : ∀ i, i ≤ l.length → 0 < i → ∀ j, j < i → (l.getD j zeroSty).b ≤ (maxS l i).b
  | 0, _, h0, _, _ => by omega
  | i + 1, hi, _, j, hj => by
    have hs := maxS_step l i (by omega)
    have hst : ∀ m x : Sty, m.b ≤ (stepX m x).b ∧ x.b ≤ (stepX m x).b := by
      intro m x
      unfold stepX cmpI
      by_cases h1 : x.b < m.b
      · rw [if_pos h1, if_neg (by decide)]; omega
      · rw [if_neg h1]
        by_cases h2 : m.b < x.b
        · rw [if_pos h2, if_pos (by decide)]; omega
        · rw [if_neg h2, if_neg (by decide)]; omega
    have := hst (maxS l i) (l.getD i zeroSty)
    rw [hs]
    by_cases hji : j = i
    · subst hji; exact this.2
    · have := maxS_ge l i (by omega) (by omega) j (by omega)
      omega
theorem span_ge {P : List Sty} {y : Sty} (hy : y ∈ P) : y.b ≤ spanE P := by
  obtain ⟨j, hj, rfl⟩ := mem_at (d := zeroSty) hy
  unfold spanE
  rw [if_neg (by omega)]
  exact maxS_ge P P.length (Nat.le_refl _) (by omega) j hj
theorem span_nonneg {bs : List By} {P : List Sty} (h : checkE bs P = 0) : 0 ≤ spanE P := by
  by_cases hP : P.length = 0
  · unfold spanE; rw [if_pos hP]; omega
  · have hm : P.getD 0 zeroSty ∈ P := getD_mem _ (by omega)
    have h1 := span_ge hm
    have h2 := ck_rng h hm
    omega
/-- No valid plan ends before the longest chain. -/
theorem crit_span {l : List Wk} {bs : List By} {P : List Sty} (h : PV l bs P) : critE l ≤ spanE P := by
  obtain ⟨hj, ho, hn, hl⟩ := ord_all h.or
  have h128 := (jobsE_inv hj).1
  have hm := ord_mem h.or
  unfold critE
  rw [if_neg (by simp [h.or])]
  generalize (ordE l).1 = S at *
  have hval := eM_val ho (fun q hq => by have := jobs_rng hj q (ho.mem q hq); omega) (by omega)
  rw [crG_top ho]
  have key : ∀ k, k < S.length → ∀ y ∈ P, y.item = (S.getD k zeroWk).id → eM S (S.getD k zeroWk).id ≤ y.b := by
    intro k
    induction k using Nat.strongRecOn with
    | _ k ih =>
      intro hk y hy hyk
      have hq := ho.mem _ (getD_mem zeroWk hk)
      obtain ⟨z, hz, z1, z2, z3, z4⟩ := h.sh _ hq
      have hzy : z = y := by
        obtain ⟨i, hi, hie⟩ := mem_at (d := zeroSty) hz
        obtain ⟨j, hj, hje⟩ := mem_at (d := zeroSty) hy
        have := its_inj h.nd hi hj (by rw [hie, hje, z1, hyk])
        rw [← hie, ← hje, this]
      subst hzy
      rw [(hval k hk).1]
      have hfr : frF (eM S) (S.getD k zeroWk).af ≤ z.a := by
        rw [frF_le]
        refine ⟨(ck_rng h.ck hz).1, fun s hs => ?_⟩
        obtain ⟨j, j1, j2, e⟩ := ids_taken.1 (ho.bef k hk s hs)
        obtain ⟨w, hw, w1, _⟩ := h.sh _ (ho.mem _ (getD_mem zeroWk j2))
        have h1 := ih j j1 j2 w hw w1
        have h2 := h.od _ hq z hz z1 s hs w hw (w1.trans e)
        rw [← e]; omega
      omega
  refine ⟨span_nonneg h.ck, fun k hk => ?_⟩
  obtain ⟨y, hy, hye, _⟩ := h.sh _ (ho.mem _ (getD_mem zeroWk hk))
  exact Int.le_trans (key k hk y hy hye) (span_ge hy)
end Go.Proofs
namespace Go.Proofs
open Go Go.Ab
set_option maxHeartbeats 8000000
set_option maxRecDepth 100000
attribute [local irreducible] Awp aops aopsL Go.Ab.Pure PureOwn PureTwoM
theorem pureV_nilc {st : Nat → Prop} {w : World} {es es' : List (List AV)} {c : Value} (hl : es'.length = es.length) (hz : ∀ i : Nat, i < es.length → (es.getD i []).length = (es'.getD i []).length)
    (hc : ∀ i j : Nat, i < es.length → j < (es.getD i []).length → av (es.getD i []) j = av (es'.getD i []) j ∨ (av (es'.getD i []) j = .nils ∧ av (es.getD i []) j = .sl [])) (h : PureV st w (.sl es') c) : PureV st w (.sl es) c := by
  cases h with
  | slE a cap hcap =>
    have : es = [] := List.eq_nil_of_length_eq_zero (by simpa using hl.symm)
    subst this
    exact .slE a cap hcap
  | slC _ g off cap sz f h1 h2 h3 h4 h5 h6 h7 h8 =>
    have hes : ∀ x ∈ es, x.length = sz := fun x hx => by
      obtain ⟨i, hi, rfl⟩ := List.getElem_of_mem hx
      have e1 := hz i hi
      have e2 : es.getD i [] = es[i] := by simp [List.getD_eq_getElem?_getD, hi]
      have e3 : es'.getD i [] = es'[i]'(by omega) := by simp [List.getD_eq_getElem?_getD, show i < es'.length by omega]
      rw [e2, e3] at e1
      rw [e1]
      exact h5 _ (List.getElem_mem _)
    rw [hl]
    refine .slC es g off cap sz f (by rw [← hl]; exact h1) h2 h3 (fun e => h4 (List.eq_nil_of_length_eq_zero (by rw [hl, e]; rfl))) hes h6 (fun i j hi hj => h7 i j (by rw [hl]; exact hi) hj) fun i j hi hj => ?_
    have hjl : j < (es.getD i []).length := by
      have e2 : es.getD i [] = es[i] := by simp [List.getD_eq_getElem?_getD, hi]
      rw [e2, hes _ (List.getElem_mem _)]
      exact hj
    have h9 := h8 i j (by rw [hl]; exact hi) hj
    rcases hc i j hi hjl with k | ⟨k1, k2⟩
    · rw [k]; exact h9
    · rw [k1] at h9
      rw [k2]
      generalize f i j = u at h9 ⊢
      cases h9 with
      | nils a => exact .slE a 0 (Nat.zero_le _)
theorem pure_nilc {P : Program} {f : Nat} {es es' : List (List AV)} {r : List AV} {res : AV} (h : Go.Ab.Pure P f (.sl es :: r) res) (hl : es'.length = es.length) (hz : ∀ i : Nat, i < es.length → (es.getD i []).length = (es'.getD i []).length)
    (hc : ∀ i j : Nat, i < es.length → j < (es.getD i []).length → av (es.getD i []) j = av (es'.getD i []) j ∨ (av (es'.getD i []) j = .nils ∧ av (es.getD i []) j = .sl [])) : Go.Ab.Pure P f (.sl es' :: r) res := by
  unfold Go.Ab.Pure at h ⊢
  refine ⟨h.1, fun ok w cs hv => h.2 ok w cs ⟨hv.1, fun j hj => ?_⟩⟩
  have := hv.2 j hj
  match j, hj with
  | 0, _ => exact pureV_nilc hl hz hc this
  | j + 1, _ => exact this
def eBays : List By := [⟨⟨⟨[72]⟩⟩, 20, 10⟩]
def eJobs : List Wk := [⟨⟨⟨[98]⟩⟩, 3, 10, 10, []⟩, ⟨⟨⟨[97]⟩⟩, 5, 12, 10, [⟨⟨[98]⟩⟩]⟩, ⟨⟨⟨[99]⟩⟩, 2, 10, 10, []⟩]
def ePlan : List Sty := [⟨⟨⟨[98]⟩⟩, ⟨⟨[72]⟩⟩, 0, 0, 10, 10, 0, 3⟩, ⟨⟨⟨[97]⟩⟩, ⟨⟨[72]⟩⟩, 0, 0, 12, 10, 3, 8⟩, ⟨⟨⟨[99]⟩⟩, ⟨⟨[72]⟩⟩, 10, 0, 10, 10, 0, 2⟩]
theorem eOrd : ordE eJobs = (eJobs, 0) := by kernel_rfl
theorem eCrit : critE eJobs = 8 := by kernel_rfl
theorem eSpan : spanE ePlan = 8 := by kernel_rfl
theorem eChk1 : pchkE eJobs eBays ePlan = 0 := by kernel_rfl
theorem eChk2 : pchkE eJobs eBays (ePlan.take 2) = 17 := by kernel_rfl
theorem planG_cons {bs : List By} {q : Wk} {S : List Wk} {p : Pn} {x : Sty} (h : fitE bs p.out (wantS q (frstM p.K p.V q.af)) q.hr = (x, 0)) : planG bs (q :: S) p = planG bs S ⟨pK p.K q.id, pV p.K p.V q.id x.b, p.out ++ [x]⟩ := by
  have e : planG bs (q :: S) p = if (fitE bs p.out (wantS q (frstM p.K p.V q.af)) q.hr).2 ≠ 0 then ([], 18)
    else planG bs S ⟨pK p.K q.id, pV p.K p.V q.id (fitE bs p.out (wantS q (frstM p.K p.V q.af)) q.hr).1.b, p.out ++ [(fitE bs p.out (wantS q (frstM p.K p.V q.af)) q.hr).1]⟩ := rfl
  rw [e, h, if_neg (by simp)]
def eS (i : Nat) : Sty := ePlan.getD i zeroSty
def eJ (i : Nat) : Wk := eJobs.getD i zeroWk
def eP0 : Pn := ⟨[], [], []⟩
def ePn (p : Pn) (q : Wk) (x : Sty) : Pn := ⟨pK p.K q.id, pV p.K p.V q.id x.b, p.out ++ [x]⟩
def eP1 : Pn := ePn eP0 (eJ 0) (eS 0)
def eP2 : Pn := ePn eP1 (eJ 1) (eS 1)
theorem eF0 : fitE eBays eP0.out (wantS (eJ 0) (frstM eP0.K eP0.V (eJ 0).af)) (eJ 0).hr = (eS 0, 0) := fitE_some (by kernel_rfl) (by kernel_rfl) (by kernel_rfl) (by kernel_rfl) (by kernel_rfl)
theorem eF1 : fitE eBays eP1.out (wantS (eJ 1) (frstM eP1.K eP1.V (eJ 1).af)) (eJ 1).hr = (eS 1, 0) := fitE_some (by kernel_rfl) (by kernel_rfl) (by kernel_rfl) (by kernel_rfl) (by kernel_rfl)
theorem eF2 : fitE eBays eP2.out (wantS (eJ 2) (frstM eP2.K eP2.V (eJ 2).af)) (eJ 2).hr = (eS 2, 0) := fitE_some (by kernel_rfl) (by kernel_rfl) (by kernel_rfl) (by kernel_rfl) (by kernel_rfl)
theorem ePl : planE eJobs eBays = (ePlan, 0) := by
  unfold planE
  rw [eOrd, if_neg (by simp), if_neg (fun hne => hne (show checkE eBays [] = 0 by kernel_rfl))]
  show planG eBays [eJ 0, eJ 1, eJ 2] eP0 = _
  rw [planG_cons eF0]
  show planG eBays [eJ 1, eJ 2] eP1 = _
  rw [planG_cons eF1]
  show planG eBays [eJ 2] eP2 = _
  rw [planG_cons eF2]
  rfl
theorem alive_ok : Pure Tryz.prog 10 [] (.v (.bool true)) := by
  have ha : ∀ q ∈ eJobs, q.af.length < 1000000 := by
    intro q hq
    simp only [eJobs, List.mem_cons, List.not_mem_nil, or_false] at hq
    rcases hq with rfl | rfl | rfl <;> decide
  have a1 : Pure Tryz.prog 11 [.sl [[.v (.string ⟨⟨[98]⟩⟩), .v (.int .i64 3), .v (.int .i64 10), .v (.int .i64 10), .nils], [.v (.string ⟨⟨[97]⟩⟩), .v (.int .i64 5), .v (.int .i64 12), .v (.int .i64 10), .sl [[.v (.string ⟨⟨[98]⟩⟩)]]], [.v (.string ⟨⟨[99]⟩⟩), .v (.int .i64 2), .v (.int .i64 10), .v (.int .i64 10), .nils]]] (.tup [.sl [[.v (.string ⟨⟨[98]⟩⟩)], [.v (.string ⟨⟨[97]⟩⟩)], [.v (.string ⟨⟨[99]⟩⟩)]], .v (.int .i64 0)]) := by
    have h := order_ok eJobs (by decide) ha
    rw [eOrd] at h
    exact pure_nilc h rfl (fun i hi => by match i, hi with
      | 0, _ => rfl
      | 1, _ => rfl
      | 2, _ => rfl) (fun i j hi hj => by match i, hi, j, hj with
      | 0, _, 0, _ => exact .inl rfl
      | 0, _, 1, _ => exact .inl rfl
      | 0, _, 2, _ => exact .inl rfl
      | 0, _, 3, _ => exact .inl rfl
      | 0, _, 4, _ => exact .inr ⟨rfl, rfl⟩
      | 1, _, 0, _ => exact .inl rfl
      | 1, _, 1, _ => exact .inl rfl
      | 1, _, 2, _ => exact .inl rfl
      | 1, _, 3, _ => exact .inl rfl
      | 1, _, 4, _ => exact .inl rfl
      | 2, _, 0, _ => exact .inl rfl
      | 2, _, 1, _ => exact .inl rfl
      | 2, _, 2, _ => exact .inl rfl
      | 2, _, 3, _ => exact .inl rfl
      | 2, _, 4, _ => exact .inr ⟨rfl, rfl⟩)
  have a2 : Pure Tryz.prog 17 [.sl [[.v (.string ⟨⟨[98]⟩⟩), .v (.int .i64 3), .v (.int .i64 10), .v (.int .i64 10), .nils], [.v (.string ⟨⟨[97]⟩⟩), .v (.int .i64 5), .v (.int .i64 12), .v (.int .i64 10), .sl [[.v (.string ⟨⟨[98]⟩⟩)]]], [.v (.string ⟨⟨[99]⟩⟩), .v (.int .i64 2), .v (.int .i64 10), .v (.int .i64 10), .nils]], .sl [[.v (.string ⟨⟨[72]⟩⟩), .v (.int .i64 20), .v (.int .i64 10)]]] (.tup [.sl [[.v (.string ⟨⟨[98]⟩⟩), .v (.string ⟨⟨[72]⟩⟩), .v (.int .i64 0), .v (.int .i64 0), .v (.int .i64 10), .v (.int .i64 10), .v (.int .i64 0), .v (.int .i64 3)], [.v (.string ⟨⟨[97]⟩⟩), .v (.string ⟨⟨[72]⟩⟩), .v (.int .i64 0), .v (.int .i64 0), .v (.int .i64 12), .v (.int .i64 10), .v (.int .i64 3), .v (.int .i64 8)], [.v (.string ⟨⟨[99]⟩⟩), .v (.string ⟨⟨[72]⟩⟩), .v (.int .i64 10), .v (.int .i64 0), .v (.int .i64 10), .v (.int .i64 10), .v (.int .i64 0), .v (.int .i64 2)]], .v (.int .i64 0)]) := by
    have h := plan_ok eJobs eBays (by decide) (by decide) ha
    rw [ePl] at h
    exact pure_nilc h rfl (fun i hi => by match i, hi with
      | 0, _ => rfl
      | 1, _ => rfl
      | 2, _ => rfl) (fun i j hi hj => by match i, hi, j, hj with
      | 0, _, 0, _ => exact .inl rfl
      | 0, _, 1, _ => exact .inl rfl
      | 0, _, 2, _ => exact .inl rfl
      | 0, _, 3, _ => exact .inl rfl
      | 0, _, 4, _ => exact .inr ⟨rfl, rfl⟩
      | 1, _, 0, _ => exact .inl rfl
      | 1, _, 1, _ => exact .inl rfl
      | 1, _, 2, _ => exact .inl rfl
      | 1, _, 3, _ => exact .inl rfl
      | 1, _, 4, _ => exact .inl rfl
      | 2, _, 0, _ => exact .inl rfl
      | 2, _, 1, _ => exact .inl rfl
      | 2, _, 2, _ => exact .inl rfl
      | 2, _, 3, _ => exact .inl rfl
      | 2, _, 4, _ => exact .inr ⟨rfl, rfl⟩)
  have a3 : Pure Tryz.prog 13 [.sl [[.v (.string ⟨⟨[98]⟩⟩), .v (.int .i64 3), .v (.int .i64 10), .v (.int .i64 10), .nils], [.v (.string ⟨⟨[97]⟩⟩), .v (.int .i64 5), .v (.int .i64 12), .v (.int .i64 10), .sl [[.v (.string ⟨⟨[98]⟩⟩)]]], [.v (.string ⟨⟨[99]⟩⟩), .v (.int .i64 2), .v (.int .i64 10), .v (.int .i64 10), .nils]]] (.tup [.v (.int .i64 8), .v (.int .i64 0)]) := by
    have h := critical_ok eJobs (by decide) ha
    rw [eOrd, eCrit] at h
    exact pure_nilc h rfl (fun i hi => by match i, hi with
      | 0, _ => rfl
      | 1, _ => rfl
      | 2, _ => rfl) (fun i j hi hj => by match i, hi, j, hj with
      | 0, _, 0, _ => exact .inl rfl
      | 0, _, 1, _ => exact .inl rfl
      | 0, _, 2, _ => exact .inl rfl
      | 0, _, 3, _ => exact .inl rfl
      | 0, _, 4, _ => exact .inr ⟨rfl, rfl⟩
      | 1, _, 0, _ => exact .inl rfl
      | 1, _, 1, _ => exact .inl rfl
      | 1, _, 2, _ => exact .inl rfl
      | 1, _, 3, _ => exact .inl rfl
      | 1, _, 4, _ => exact .inl rfl
      | 2, _, 0, _ => exact .inl rfl
      | 2, _, 1, _ => exact .inl rfl
      | 2, _, 2, _ => exact .inl rfl
      | 2, _, 3, _ => exact .inl rfl
      | 2, _, 4, _ => exact .inr ⟨rfl, rfl⟩)
  have a4 : Pure Tryz.prog 20 [.sl [[.v (.string ⟨⟨[98]⟩⟩), .v (.int .i64 3), .v (.int .i64 10), .v (.int .i64 10), .nils], [.v (.string ⟨⟨[97]⟩⟩), .v (.int .i64 5), .v (.int .i64 12), .v (.int .i64 10), .sl [[.v (.string ⟨⟨[98]⟩⟩)]]], [.v (.string ⟨⟨[99]⟩⟩), .v (.int .i64 2), .v (.int .i64 10), .v (.int .i64 10), .nils]], .sl [[.v (.string ⟨⟨[72]⟩⟩), .v (.int .i64 20), .v (.int .i64 10)]], .sl [[.v (.string ⟨⟨[98]⟩⟩), .v (.string ⟨⟨[72]⟩⟩), .v (.int .i64 0), .v (.int .i64 0), .v (.int .i64 10), .v (.int .i64 10), .v (.int .i64 0), .v (.int .i64 3)], [.v (.string ⟨⟨[97]⟩⟩), .v (.string ⟨⟨[72]⟩⟩), .v (.int .i64 0), .v (.int .i64 0), .v (.int .i64 12), .v (.int .i64 10), .v (.int .i64 3), .v (.int .i64 8)], [.v (.string ⟨⟨[99]⟩⟩), .v (.string ⟨⟨[72]⟩⟩), .v (.int .i64 10), .v (.int .i64 0), .v (.int .i64 10), .v (.int .i64 10), .v (.int .i64 0), .v (.int .i64 2)]]] (.v (.int .i64 0)) := by
    have h := pchk_ok eJobs eBays ePlan (by decide) (by decide) (by decide) ha
    rw [eChk1] at h
    exact pure_nilc h rfl (fun i hi => by match i, hi with
      | 0, _ => rfl
      | 1, _ => rfl
      | 2, _ => rfl) (fun i j hi hj => by match i, hi, j, hj with
      | 0, _, 0, _ => exact .inl rfl
      | 0, _, 1, _ => exact .inl rfl
      | 0, _, 2, _ => exact .inl rfl
      | 0, _, 3, _ => exact .inl rfl
      | 0, _, 4, _ => exact .inr ⟨rfl, rfl⟩
      | 1, _, 0, _ => exact .inl rfl
      | 1, _, 1, _ => exact .inl rfl
      | 1, _, 2, _ => exact .inl rfl
      | 1, _, 3, _ => exact .inl rfl
      | 1, _, 4, _ => exact .inl rfl
      | 2, _, 0, _ => exact .inl rfl
      | 2, _, 1, _ => exact .inl rfl
      | 2, _, 2, _ => exact .inl rfl
      | 2, _, 3, _ => exact .inl rfl
      | 2, _, 4, _ => exact .inr ⟨rfl, rfl⟩)
  have a5 : Pure Tryz.prog 20 [.sl [[.v (.string ⟨⟨[98]⟩⟩), .v (.int .i64 3), .v (.int .i64 10), .v (.int .i64 10), .nils], [.v (.string ⟨⟨[97]⟩⟩), .v (.int .i64 5), .v (.int .i64 12), .v (.int .i64 10), .sl [[.v (.string ⟨⟨[98]⟩⟩)]]], [.v (.string ⟨⟨[99]⟩⟩), .v (.int .i64 2), .v (.int .i64 10), .v (.int .i64 10), .nils]], .sl [[.v (.string ⟨⟨[72]⟩⟩), .v (.int .i64 20), .v (.int .i64 10)]], .sl [[.v (.string ⟨⟨[98]⟩⟩), .v (.string ⟨⟨[72]⟩⟩), .v (.int .i64 0), .v (.int .i64 0), .v (.int .i64 10), .v (.int .i64 10), .v (.int .i64 0), .v (.int .i64 3)], [.v (.string ⟨⟨[97]⟩⟩), .v (.string ⟨⟨[72]⟩⟩), .v (.int .i64 0), .v (.int .i64 0), .v (.int .i64 12), .v (.int .i64 10), .v (.int .i64 3), .v (.int .i64 8)]]] (.v (.int .i64 17)) := by
    have h := pchk_ok eJobs eBays (ePlan.take 2) (by decide) (by decide) (by decide) ha
    rw [eChk2] at h
    exact pure_nilc h rfl (fun i hi => by match i, hi with
      | 0, _ => rfl
      | 1, _ => rfl
      | 2, _ => rfl) (fun i j hi hj => by match i, hi, j, hj with
      | 0, _, 0, _ => exact .inl rfl
      | 0, _, 1, _ => exact .inl rfl
      | 0, _, 2, _ => exact .inl rfl
      | 0, _, 3, _ => exact .inl rfl
      | 0, _, 4, _ => exact .inr ⟨rfl, rfl⟩
      | 1, _, 0, _ => exact .inl rfl
      | 1, _, 1, _ => exact .inl rfl
      | 1, _, 2, _ => exact .inl rfl
      | 1, _, 3, _ => exact .inl rfl
      | 1, _, 4, _ => exact .inl rfl
      | 2, _, 0, _ => exact .inl rfl
      | 2, _, 1, _ => exact .inl rfl
      | 2, _, 2, _ => exact .inl rfl
      | 2, _, 3, _ => exact .inl rfl
      | 2, _, 4, _ => exact .inr ⟨rfl, rfl⟩)
  have a6 : Pure Tryz.prog 15 [.sl [[.v (.string ⟨⟨[98]⟩⟩)], [.v (.string ⟨⟨[97]⟩⟩)], [.v (.string ⟨⟨[99]⟩⟩)]], .sl [[.v (.string ⟨⟨[98]⟩⟩)], [.v (.string ⟨⟨[97]⟩⟩)], [.v (.string ⟨⟨[99]⟩⟩)]]] (.v (.bool true)) := same04_ok (ids eJobs) (by decide)
  have a7 : Pure Tryz.prog 19 [.sl [[.v (.string ⟨⟨[98]⟩⟩), .v (.string ⟨⟨[72]⟩⟩), .v (.int .i64 0), .v (.int .i64 0), .v (.int .i64 10), .v (.int .i64 10), .v (.int .i64 0), .v (.int .i64 3)], [.v (.string ⟨⟨[97]⟩⟩), .v (.string ⟨⟨[72]⟩⟩), .v (.int .i64 0), .v (.int .i64 0), .v (.int .i64 12), .v (.int .i64 10), .v (.int .i64 3), .v (.int .i64 8)], [.v (.string ⟨⟨[99]⟩⟩), .v (.string ⟨⟨[72]⟩⟩), .v (.int .i64 10), .v (.int .i64 0), .v (.int .i64 10), .v (.int .i64 10), .v (.int .i64 0), .v (.int .i64 2)]], .sl [[.v (.string ⟨⟨[98]⟩⟩), .v (.string ⟨⟨[72]⟩⟩), .v (.int .i64 0), .v (.int .i64 0), .v (.int .i64 10), .v (.int .i64 10), .v (.int .i64 0), .v (.int .i64 3)], [.v (.string ⟨⟨[97]⟩⟩), .v (.string ⟨⟨[72]⟩⟩), .v (.int .i64 0), .v (.int .i64 0), .v (.int .i64 12), .v (.int .i64 10), .v (.int .i64 3), .v (.int .i64 8)], [.v (.string ⟨⟨[99]⟩⟩), .v (.string ⟨⟨[72]⟩⟩), .v (.int .i64 10), .v (.int .i64 0), .v (.int .i64 10), .v (.int .i64 10), .v (.int .i64 0), .v (.int .i64 2)]]] (.v (.bool true)) := same42_ok ePlan (by decide)
  have a8 : Pure Tryz.prog 22 [.sl [[.v (.string ⟨⟨[98]⟩⟩), .v (.string ⟨⟨[72]⟩⟩), .v (.int .i64 0), .v (.int .i64 0), .v (.int .i64 10), .v (.int .i64 10), .v (.int .i64 0), .v (.int .i64 3)], [.v (.string ⟨⟨[97]⟩⟩), .v (.string ⟨⟨[72]⟩⟩), .v (.int .i64 0), .v (.int .i64 0), .v (.int .i64 12), .v (.int .i64 10), .v (.int .i64 3), .v (.int .i64 8)], [.v (.string ⟨⟨[99]⟩⟩), .v (.string ⟨⟨[72]⟩⟩), .v (.int .i64 10), .v (.int .i64 0), .v (.int .i64 10), .v (.int .i64 10), .v (.int .i64 0), .v (.int .i64 2)]]] (.v (.int .i64 8)) := by
    have h := span_ok ePlan (by decide)
    rw [eSpan] at h
    exact h
  refine fn_pure Tryz.F10 (Nat.le_of_ble_eq_true rfl) ?_; unfold Tryz.ac10 AR AM AO
  repeat' (first
 | (apply Awp.sreg; (case hn => (simp only [List.length_cons, List.length_nil, Nat.reduceAdd] <;> rfl)))
 | (refine st_nil ?_)
 | (apply st_full (d := some 11); (case hr => (simp only [go_sem, *] <;> rfl)); (case hn => (simp; done)); (case hp => (first | (simp; done))))
 | (apply st_full (d := some 13); (case hr => (simp only [go_sem, *] <;> rfl)); (case hn => (simp; done)); (case hp => (first | (simp; done))))
 | (apply st_full (d := some 16); (case hr => (simp only [go_sem, *] <;> rfl)); (case hn => (simp; done)); (case hp => (first | (simp; done))))
 | (apply st_full (d := some 42); (case hr => (simp only [go_sem, *] <;> rfl)); (case hn => (simp; done)); (case hp => (first | (simp; done))))
 | (apply st_a; (case hc => rfl); (case he => (simp only [go_sem, *] <;> rfl)); (case hu => (simp only [updL_nil, updL_cons] <;> rfl)); (case hp => first | trivial | (simp; done)))
 | (apply st_m; (case hc => rfl); (case hg => (simp only [go_sem, *] <;> rfl)); (case he => (intro hQz; (try simp only [wantB_t, wantB_f, Bool.and_eq_true, Bool.not_eq_true', Bool.not_true, Bool.not_false, and_true, true_and] at hQz); simp only [go_sem, *] <;> rfl)); (case hp => (intro hQz; (try simp only [wantB_t, wantB_f, Bool.and_eq_true, Bool.not_eq_true', Bool.or_eq_false_iff, decide_eq_true_eq, decide_eq_false_iff_not, beq_iff_eq, beq_eq_false_iff_ne, bne_iff_ne, bne_eq_false_iff_eq, Int.not_lt, Int.not_le, Int.ofNat_lt, Int.ofNat_le] at hQz); first | trivial)))
 | (apply st_c; (case hc => (simp only [go_sem, *] <;> rfl)); (case hl => (simp only [go_sem, *] <;> rfl)); (case hn => (simp only [go_sem, *] <;> rfl)); (case hp => first | exact a1 | (have hXz := a1; simp only [go_sem, *] at hXz; exact hXz)))
 | (apply st_c; (case hc => (simp only [go_sem, *] <;> rfl)); (case hl => (simp only [go_sem, *] <;> rfl)); (case hn => (simp only [go_sem, *] <;> rfl)); (case hp => first | exact a2 | (have hXz := a2; simp only [go_sem, *] at hXz; exact hXz)))
 | (apply st_c; (case hc => (simp only [go_sem, *] <;> rfl)); (case hl => (simp only [go_sem, *] <;> rfl)); (case hn => (simp only [go_sem, *] <;> rfl)); (case hp => first | exact a3 | (have hXz := a3; simp only [go_sem, *] at hXz; exact hXz)))
 | (apply st_mc; (case hop => rfl); (case hg => (simp only [go_sem, *] <;> rfl)); (case hc => (intro hQz; (try simp only [wantB_t, wantB_f, Bool.and_eq_true, Bool.not_eq_true', Bool.not_true, Bool.not_false, and_true, true_and] at hQz); simp only [go_sem, *] <;> rfl)); (case hl => (intro hQz; (try simp only [wantB_t, wantB_f, Bool.and_eq_true, Bool.not_eq_true', Bool.not_true, Bool.not_false, and_true, true_and] at hQz); simp only [go_sem, *] <;> rfl)); (case hn => (intro hQz; (try simp only [wantB_t, wantB_f, Bool.and_eq_true, Bool.not_eq_true', Bool.not_true, Bool.not_false, and_true, true_and] at hQz); simp only [go_sem, *] <;> rfl)); (case hp => intro hQz; first | exact a4 | (have hXz := a4; simp only [go_sem, *] at hXz; exact hXz)))
 | (apply st_cd; (case hc => (simp only [go_sem, *] <;> rfl)); (case hl => (simp only [go_sem, *] <;> rfl)); (case hn => (simp only [go_sem, *] <;> rfl)); (case hp => first | exact a5 | (have hXz := a5; simp only [go_sem, *] at hXz; exact hXz)); (case hd => first | exact .v _ | exact .any | exact .nils | (repeat' (first | exact Dry.v _ | exact Dry.any | exact Dry.nils | exact Dry.slE | refine Dry.agg ?_ | refine Dry.tup ?_ | (refine List.forall_mem_cons.2 (And.intro ?_ ?_)) | (intro cQ hQ; cases hQ; done)))); (case hm => first | decide | (simp; done)))
 | (apply st_c; (case hc => (simp only [go_sem, *] <;> rfl)); (case hl => (simp only [go_sem, *] <;> rfl)); (case hn => (simp only [go_sem, *] <;> rfl)); (case hp => first | exact a6 | (have hXz := a6; simp only [go_sem, *] at hXz; exact hXz)))
 | (apply st_cd; (case hc => (simp only [go_sem, *] <;> rfl)); (case hl => (simp only [go_sem, *] <;> rfl)); (case hn => (simp only [go_sem, *] <;> rfl)); (case hp => first | exact a7 | (have hXz := a7; simp only [go_sem, *] at hXz; exact hXz)); (case hd => first | exact .v _ | exact .any | exact .nils | (repeat' (first | exact Dry.v _ | exact Dry.any | exact Dry.nils | exact Dry.slE | refine Dry.agg ?_ | refine Dry.tup ?_ | (refine List.forall_mem_cons.2 (And.intro ?_ ?_)) | (intro cQ hQ; cases hQ; done)))); (case hm => first | decide | (simp; done)))
 | (apply st_mc; (case hop => rfl); (case hg => (simp only [go_sem, *] <;> rfl)); (case hc => (intro hQz; (try simp only [wantB_t, wantB_f, Bool.and_eq_true, Bool.not_eq_true', Bool.not_true, Bool.not_false, and_true, true_and] at hQz); simp only [go_sem, *] <;> rfl)); (case hl => (intro hQz; (try simp only [wantB_t, wantB_f, Bool.and_eq_true, Bool.not_eq_true', Bool.not_true, Bool.not_false, and_true, true_and] at hQz); simp only [go_sem, *] <;> rfl)); (case hn => (intro hQz; (try simp only [wantB_t, wantB_f, Bool.and_eq_true, Bool.not_eq_true', Bool.not_true, Bool.not_false, and_true, true_and] at hQz); simp only [go_sem, *] <;> rfl)); (case hp => intro hQz; first | exact a8 | (have hXz := a8; simp only [go_sem, *] at hXz; exact hXz)))
 | (apply st_g; (case hv => (simp only [go_sem, *] <;> rfl)); all_goals (intro hg; (try simp only [Bool.not_true, Bool.not_false, reduceCtorEq] at hg); (try have hg' := hg); (try simp only [decide_eq_true_eq, decide_eq_false_iff_not, Bool.and_eq_true, Bool.or_eq_false_iff, bne_iff_ne, bne_eq_false_iff_eq, beq_iff_eq, beq_eq_false_iff_ne, Int.not_lt, Int.not_le, Int.ofNat_lt, Int.ofNat_le, Int.natCast_inj] at hg')))
 | (refine Awp.ret ?_; try simp only [go_sem, *]))
  all_goals repeat' (first | exact Lower.bool (by first | rfl | (simp only [true_and, Bool.true_and, Bool.false_and, Bool.and_true, Bool.and_false, Bool.true_or, Bool.false_or, reduceIte, Bool.false_eq_true, *]; done) | (simp only [true_and, reduceIte, Bool.false_eq_true, *] <;> rfl) | (simp [true_and]; done) | (simp_all [true_and]; done) | omega))
end Go.Proofs
namespace Go.Ab
end Go.Ab
namespace Go.Proofs
open Go Go.Ab
set_option maxHeartbeats 8000000
set_option maxRecDepth 100000
attribute [local irreducible] Awp aops aopsL Go.Ab.Pure PureOwn
end Go.Proofs
namespace Go.Proofs
open Go Go.Ab
set_option maxHeartbeats 4000000
set_option maxRecDepth 100000
attribute [local irreducible] Awp aops aopsL Go.Ab.Pure PureOwn
end Go.Proofs
namespace Go.Proofs
open Go Go.Ab
set_option maxHeartbeats 8000000
set_option maxRecDepth 100000
attribute [local irreducible] Awp aops aopsL Go.Ab.Pure PureOwn PureTwoM
end Go.Proofs
namespace Go.Proofs
open Go Go.Ab
set_option maxHeartbeats 1000000
def movS (d : Int) (x : Sty) : Sty := ⟨x.item, x.bay, x.x, x.y, x.len, x.wid, IntKind.i64.wrap (x.a + d), IntKind.i64.wrap (x.b + d)⟩
theorem moved_pv {l : List Wk} {bs : List By} {P : List Sty} {d : Int} (h : PV l bs P) (h0 : 0 ≤ d) (h1 : d ≤ 1048576 - spanE P) : PV l bs (P.map (movS d)) := by
  have hC := (checkE_iff bs P).1 h.ck
  have hb := hC.1
  have hs0 := span_nonneg h.ck
  have hr : ∀ x ∈ P, 0 ≤ x.a ∧ x.a < x.b ∧ x.b + d ≤ 1048576 := fun x hx => by
    have g1 := ck_rng h.ck hx
    have g2 := span_ge hx
    omega
  have ha : ∀ x ∈ P, (movS d x).a = x.a + d ∧ (movS d x).b = x.b + d := fun x hx => by
    have := hr x hx
    exact ⟨wrap_i64 (by omega) (by omega), wrap_i64 (by omega) (by omega)⟩
  have hg : ∀ x ∈ P, good bs (movS d x) = true := fun x hx => by
    have g := (good_iff hb).1 (hC.2.2.1 x hx)
    have e := ha x hx
    have e2 := hr x hx
    rw [good_iff hb]
    refine ⟨g.1, g.2.1, g.2.2.1, g.2.2.2.1, g.2.2.2.2.1, g.2.2.2.2.2.1, g.2.2.2.2.2.2.1, g.2.2.2.2.2.2.2.1, g.2.2.2.2.2.2.2.2.1, g.2.2.2.2.2.2.2.2.2.1, ?_, ?_, ?_⟩ <;> omega
  have hi : its (P.map (movS d)) = its P := by unfold its; rw [List.map_map]; rfl
  refine ⟨h.or, ?_, by rw [List.length_map]; exact h.len, by rw [hi]; exact h.nd, ?_, ?_⟩
  · rw [checkE_iff]
    refine ⟨hb, by rw [List.length_map]; exact hC.2.1, fun x hx => ?_, ?_⟩
    · obtain ⟨z, hz, rfl⟩ := List.mem_map.1 hx
      exact hg z hz
    · rw [List.pairwise_map]
      refine List.Pairwise.imp_of_mem ?_ hC.2.2.2
      intro p q hp hq hpq
      unfold apart at hpq ⊢
      cases ho : overB (movS d p) (movS d q)
      · rfl
      · have h2 := (over_iff hb (hg p hp) (hg q hq)).1 ho
        have e1 := ha p hp
        have e2 := ha q hq
        rw [e1.1, e1.2, e2.1, e2.2] at h2
        have := (over_iff hb (hC.2.2.1 p hp) (hC.2.2.1 q hq)).2 ⟨h2.1, by omega, by omega, h2.2.2.2⟩
        rw [hpq] at this; cases this
  · intro q hq
    obtain ⟨y, hy, h1, h2, h3, h4⟩ := h.sh q hq
    have e := ha y hy
    exact ⟨movS d y, List.mem_map.2 ⟨y, hy, rfl⟩, h1, h2, h3, by omega⟩
  · intro q hq y hy hyq s hs z hz hzs
    obtain ⟨y0, hy0, rfl⟩ := List.mem_map.1 hy
    obtain ⟨z0, hz0, rfl⟩ := List.mem_map.1 hz
    have := h.od q hq y0 hy0 hyq s hs z0 hz0 hzs
    have e1 := ha y0 hy0
    have e2 := ha z0 hz0
    omega
theorem idxF_neg {α : Type} {p : α → Bool} {S : List α} (h : idxF p S < 0) : ∀ q ∈ S, p q = false := by
  unfold idxF at h
  split at h
  · omega
  · rename_i h2
    intro q hq
    have := List.findIdx_eq_length.1 (Nat.le_antisymm List.findIdx_le_length (Nat.le_of_not_lt h2)) q hq
    simpa using this
theorem jobsE_iff {l : List Wk} : jobsE l = 0 ↔ l.length ≤ 128 ∧ (∀ q ∈ l, idB q.id = true ∧ rngW q = false) ∧ (ids l).Nodup ∧ ∀ q ∈ l, wantB l q = true := by
  constructor
  · intro h
    obtain ⟨h1, h2, h3⟩ := jobsE_inv h
    refine ⟨by omega, fun q hq => ?_, ids_nodup h, h3⟩
    obtain ⟨i, hi, rfl⟩ := mem_at (d := zeroWk) hq
    have := badW_inv (h2 i hi)
    exact ⟨this.1, this.2.2⟩
  · rintro ⟨h1, h2, h3, h4⟩
    refine jobsE_ok (by omega) ((firstE_zero _ _).2 fun i hi => ?_) fun j hj => h4 _ (getD_mem zeroWk hj)
    obtain ⟨g1, g2⟩ := h2 _ (getD_mem zeroWk hi)
    have hh : hasK (ids (l.take i)) (l.getD i zeroWk).id = false := by
      cases hx : hasK (ids (l.take i)) (l.getD i zeroWk).id
      · rfl
      · obtain ⟨j, j1, j2, e⟩ := ids_taken.1 (hasK_iff.1 hx)
        have := ids_inj h3 j2 hi e
        omega
    unfold badW
    rw [g1, hh, g2]
    rfl
/-- Any order of the jobs makes the search succeed. -/
theorem ordG_live {l S : List Wk} (hS : OrdOk l S) : ∀ (n : Nat) (W out : List Wk), (ids W).Nodup → (∀ t ∈ ids W, t ∈ ids l) → W.length = n → (ordG (sortW l) n W out).2 = 0
  | 0, _, _, _, _, _ => rfl
  | n + 1, W, out, hW, hm, hn => by
    have hstep : ordG (sortW l) (n + 1) W out = if idxF (readyB W) (sortW l) < 0 then ([], 20) else ordG (sortW l) n (delW W ((sortW l).getD (idxF (readyB W) (sortW l)).toNat zeroWk).id) (out ++ [(sortW l).getD (idxF (readyB W) (sortW l)).toNat zeroWk]) := rfl
    rw [hstep]
    rcases idxF_cases (readyB W) (sortW l) zeroWk with ⟨hi, _⟩ | ⟨i, hi, hlt, hrb⟩
    · exfalso
      have hno := idxF_neg hi
      have hall : ∀ j, j < S.length → (S.getD j zeroWk).id ∉ ids W := by
        intro j
        induction j using Nat.strongRecOn with
        | _ j ih =>
          intro hj hin
          have hq := hS.mem _ (getD_mem zeroWk hj)
          have := hno _ ((sortW_perm l).mem_iff.2 hq)
          unfold readyB at this
          rw [hasK_iff.2 hin, Bool.true_and, Bool.not_eq_false', List.any_eq_true] at this
          obtain ⟨s, hs, hsW⟩ := this
          obtain ⟨k, k1, k2, e⟩ := ids_taken.1 (hS.bef j hj s hs)
          rw [hasK_iff, ← e] at hsW
          exact ih k k1 k2 hsW
      have hw0 : (W.getD 0 zeroWk).id ∈ ids W := ids_at (by omega)
      obtain ⟨q, hq, hqe⟩ := List.mem_map.1 (hS.all _ (hm _ hw0))
      obtain ⟨j, hj, rfl⟩ := mem_at (d := zeroWk) hq
      exact hall j hj (by rw [hqe]; exact hw0)
    · rw [hi, if_neg (by omega), Int.toNat_natCast]
      unfold readyB at hrb
      rw [Bool.and_eq_true] at hrb
      refine ordG_live hS n _ _ (delW_nodup _ hW) (fun t ht => hm t ((delW_mem hW).1 ht).1) ?_
      have := delW_len hrb.1
      omega
theorem ordE_live {l S : List Wk} (hj : jobsE l = 0) (hS : OrdOk l S) : (ordE l).2 = 0 := by
  unfold ordE
  rw [if_neg (fun hne => hne hj)]
  exact ordG_live hS l.length l [] (ids_nodup hj) (fun t ht => ht) rfl
theorem filter_erase {α β : Type} [DecidableEq β] (f : α → β) : ∀ (P : List α) (m : Nat) (d : α), (P.map f).Nodup → m < P.length → P.filter (fun x => !decide (f x = f (P.getD m d))) = P.eraseIdx m
  | [], _, _, _, h => by simp at h
  | x :: P, 0, d, hn, _ => by
    rw [List.map_cons, List.nodup_cons] at hn
    show List.filter (fun y => !decide (f y = f x)) (x :: P) = P
    rw [List.filter_cons, if_neg (by simp)]
    rw [List.filter_eq_self]
    intro y hy
    have : f y ≠ f x := fun e => hn.1 (e ▸ List.mem_map.2 ⟨y, hy, rfl⟩)
    simpa using this
  | x :: P, m + 1, d, hn, h => by
    rw [List.map_cons, List.nodup_cons] at hn
    have hm : m < P.length := by simpa using h
    have ih := filter_erase f P m d hn.2 hm
    show List.filter (fun y => !decide (f y = f (P.getD m d))) (x :: P) = x :: P.eraseIdx m
    rw [List.filter_cons, if_pos, ih]
    have : f x ≠ f (P.getD m d) := fun e => hn.1 (e ▸ List.mem_map.2 ⟨_, getD_mem d hm, rfl⟩)
    simpa using this
theorem erase_mem {l : List Wk} (hn : (ids l).Nodup) {k : Nat} (hk : k < l.length) {q : Wk} : q ∈ l.eraseIdx k ↔ q ∈ l ∧ q.id ≠ (l.getD k zeroWk).id := by
  rw [List.mem_eraseIdx_iff_getElem?]
  constructor
  · rintro ⟨j, hj, e⟩
    have hjl : j < l.length := by
      rcases Nat.lt_or_ge j l.length with h | h
      · exact h
      · rw [List.getElem?_eq_none h] at e; cases e
    refine ⟨List.mem_of_getElem? e, fun e2 => hj ?_⟩
    have e3 : l.getD j zeroWk = q := by rw [List.getD_eq_getElem?_getD, e]; rfl
    exact ids_inj hn hjl hk (by rw [e3, e2])
  · rintro ⟨hq, hne⟩
    obtain ⟨j, hj, e⟩ := mem_at (d := zeroWk) hq
    refine ⟨j, fun e2 => hne (by rw [← e, e2]), ?_⟩
    rw [getD_at hj] at e
    rw [List.getElem?_eq_getElem hj, e]
theorem getD_erase_lt {l : List Wk} {m j : Nat} (h : j < m) : (l.eraseIdx m).getD j zeroWk = l.getD j zeroWk := by
  rw [List.getD_eq_getElem?_getD, List.getElem?_eraseIdx, if_pos h, List.getD_eq_getElem?_getD]
theorem getD_erase_ge {l : List Wk} {m j : Nat} (h : m ≤ j) : (l.eraseIdx m).getD j zeroWk = l.getD (j + 1) zeroWk := by
  rw [List.getD_eq_getElem?_getD, List.getElem?_eraseIdx, if_neg (by omega), List.getD_eq_getElem?_getD]
/-- No job needs this one. -/
def Free1 (l : List Wk) (k : Nat) : Prop := ∀ q ∈ l, ∀ s ∈ q.af, s ≠ (l.getD k zeroWk).id
theorem ids_sub {l m : List Wk} (h : l.Sublist m) : (ids l).Sublist (ids m) := h.map _
theorem ord_less {l S : List Wk} {k : Nat} (hn : (ids l).Nodup) (hk : k < l.length) (hf : Free1 l k) (hS : OrdOk l S) : ∃ S', OrdOk (l.eraseIdx k) S' := by
  have hkS : (l.getD k zeroWk).id ∈ ids S := hS.all _ (ids_at hk)
  obtain ⟨q, hq, hqe⟩ := List.mem_map.1 hkS
  obtain ⟨m, hm, rfl⟩ := mem_at (d := zeroWk) hq
  have hlen : (S.eraseIdx m).length = S.length - 1 := List.length_eraseIdx_of_lt hm
  refine ⟨S.eraseIdx m, ?_, ?_, ?_, ?_⟩
  · exact (ids_sub (List.eraseIdx_sublist S m)).nodup hS.nd
  · intro q hq
    obtain ⟨h1, h2⟩ := (erase_mem hS.nd hm).1 hq
    exact (erase_mem hn hk).2 ⟨hS.mem q h1, by rw [← hqe]; exact h2⟩
  · intro t ht
    obtain ⟨q, hq, rfl⟩ := List.mem_map.1 ht
    obtain ⟨h1, h2⟩ := (erase_mem hn hk).1 hq
    obtain ⟨q2, hq2, e⟩ := List.mem_map.1 (hS.all q.id (List.mem_map.2 ⟨q, h1, rfl⟩))
    refine List.mem_map.2 ⟨q2, (erase_mem hS.nd hm).2 ⟨hq2, by rw [e, hqe]; exact h2⟩, e⟩
  · intro j hj s hs
    rw [hlen] at hj
    rw [ids_taken]
    by_cases hjm : j < m
    · rw [getD_erase_lt hjm] at hs
      obtain ⟨i, i1, i2, e⟩ := ids_taken.1 (hS.bef j (by omega) s hs)
      exact ⟨i, i1, by omega, by rw [getD_erase_lt (by omega)]; exact e⟩
    · rw [getD_erase_ge (by omega)] at hs
      obtain ⟨i, i1, i2, e⟩ := ids_taken.1 (hS.bef (j + 1) (by omega) s hs)
      have hne : i ≠ m := by
        intro e2
        subst e2
        exact hf _ (hS.mem _ (getD_mem zeroWk (show j + 1 < S.length by omega))) s hs (by rw [← e, hqe])
      by_cases him : i < m
      · exact ⟨i, by omega, by omega, by rw [getD_erase_lt him]; exact e⟩
      · refine ⟨i - 1, by omega, by omega, ?_⟩
        rw [getD_erase_ge (by omega), show i - 1 + 1 = i by omega]; exact e
theorem jobs_less {l : List Wk} {k : Nat} (hj : jobsE l = 0) (hk : k < l.length) (hf : Free1 l k) : jobsE (l.eraseIdx k) = 0 := by
  rw [jobsE_iff] at hj ⊢
  obtain ⟨h1, h2, h3, h4⟩ := hj
  have hlen : (l.eraseIdx k).length ≤ l.length := (List.eraseIdx_sublist l k).length_le
  refine ⟨by omega, fun q hq => h2 q ((erase_mem h3 hk).1 hq).1, (ids_sub (List.eraseIdx_sublist l k)).nodup h3, fun q hq => ?_⟩
  have hq := ((erase_mem h3 hk).1 hq).1
  unfold wantB
  rw [List.all_eq_true]
  intro s hs
  rw [hasK_iff]
  have := hasK_iff.1 (List.all_eq_true.1 (h4 q hq) s hs)
  obtain ⟨q2, hq2, e⟩ := List.mem_map.1 this
  exact List.mem_map.2 ⟨q2, (erase_mem h3 hk).2 ⟨hq2, by rw [e]; exact hf q hq s hs⟩, e⟩
theorem less_ord {l : List Wk} {k : Nat} (hE : (ordE l).2 = 0) (hk : k < l.length) (hf : Free1 l k) : (ordE (l.eraseIdx k)).2 = 0 := by
  obtain ⟨hj, ho, hn, hl⟩ := ord_all hE
  obtain ⟨S', hS'⟩ := ord_less hn hk hf ho
  exact ordE_live (jobs_less hj hk hf) hS'
theorem less_pv {l : List Wk} {bs : List By} {P : List Sty} {k : Nat} (h : PV l bs P) (hk : k < l.length) (hf : Free1 l k) : PV (l.eraseIdx k) bs (P.filter fun x => !decide (x.item = (l.getD k zeroWk).id)) := by
  obtain ⟨hj, ho, hn, hl⟩ := ord_all h.or
  obtain ⟨y, hy, hye, _⟩ := h.sh _ (getD_mem zeroWk hk)
  obtain ⟨m, hm, rfl⟩ := mem_at (d := zeroSty) hy
  have hfe : P.filter (fun x => !decide (x.item = (l.getD k zeroWk).id)) = P.eraseIdx m := by
    rw [← hye]
    exact filter_erase Sty.item P m zeroSty h.nd hm
  have hmf : ∀ x, x ∈ P.filter (fun x => !decide (x.item = (l.getD k zeroWk).id)) ↔ x ∈ P ∧ x.item ≠ (l.getD k zeroWk).id := fun x => by
    rw [List.mem_filter]; simp
  refine ⟨less_ord h.or hk hf, check_sub h.ck List.filter_sublist, ?_, ?_, ?_, ?_⟩
  · rw [hfe, List.length_eraseIdx_of_lt hm, List.length_eraseIdx_of_lt hk, h.len]
  · exact (List.Sublist.map Sty.item (List.filter_sublist (l := P) (p := fun x => !decide (x.item = (l.getD k zeroWk).id)))).nodup h.nd
  · intro q hq
    obtain ⟨h1, h2⟩ := (erase_mem hn hk).1 hq
    obtain ⟨y, hy, hi, r⟩ := h.sh q h1
    exact ⟨y, (hmf y).2 ⟨hy, by rw [hi]; exact h2⟩, hi, r⟩
  · intro q hq y hy hyq s hs z hz hzs
    exact h.od q ((erase_mem hn hk).1 hq).1 y ((hmf y).1 hy).1 hyq s hs z ((hmf z).1 hz).1 hzs
theorem crit_less {l : List Wk} {k : Nat} (hE : (ordE l).2 = 0) (hk : k < l.length) (hf : Free1 l k) : critE (l.eraseIdx k) ≤ critE l := by
  have hE1 := less_ord hE hk hf
  obtain ⟨hj, ho, hn, hl⟩ := ord_all hE
  obtain ⟨hj1, ho1, hn1, hl1⟩ := ord_all hE1
  have h128 := (jobsE_inv hj).1
  have hlen : (l.eraseIdx k).length ≤ l.length := (List.eraseIdx_sublist l k).length_le
  unfold critE
  rw [if_neg (fun hne => hne hE1), if_neg (fun hne => hne hE)]
  have hmS := ord_mem hE
  generalize (ordE l).1 = S at *
  generalize (ordE (l.eraseIdx k)).1 = S1 at *
  have hval := eM_val ho (fun q hq => by have := jobs_rng hj q (ho.mem q hq); omega) (by omega)
  have hval1 := eM_val ho1 (fun q hq => by have := jobs_rng hj1 q (ho1.mem q hq); omega) (by omega)
  have hin : ∀ j, j < S1.length → ∃ i, i < S.length ∧ S.getD i zeroWk = S1.getD j zeroWk := by
    intro j hjl
    have := ((erase_mem hn hk).1 (ho1.mem _ (getD_mem zeroWk hjl))).1
    obtain ⟨i, i1, i2⟩ := mem_at (d := zeroWk) ((hmS _).2 this)
    exact ⟨i, i1, i2⟩
  have key : ∀ j, j < S1.length → eM S1 (S1.getD j zeroWk).id ≤ eM S (S1.getD j zeroWk).id := by
    intro j
    induction j using Nat.strongRecOn with
    | _ j ih =>
      intro hjl
      obtain ⟨i, i1, i2⟩ := hin j hjl
      have e1 := (hval i i1).1
      rw [i2] at e1
      rw [(hval1 j hjl).1, e1]
      have : frF (eM S1) (S1.getD j zeroWk).af ≤ frF (eM S) (S1.getD j zeroWk).af := by
        rw [frF_le]
        refine ⟨frF_nonneg _ _, fun s hs => ?_⟩
        obtain ⟨m, m1, m2, e⟩ := ids_taken.1 (ho1.bef j hjl s hs)
        have h1 := ih m m1 m2
        rw [e] at h1
        exact Int.le_trans h1 (((frF_le (eM S) (S1.getD j zeroWk).af _).1 (Int.le_refl _)).2 s hs)
      omega
  rw [crG_top ho1]
  obtain ⟨c1, c2⟩ := (crG_top ho (crG S).n).1 (Int.le_refl _)
  refine ⟨c1, fun j hjl => ?_⟩
  obtain ⟨i, i1, i2⟩ := hin j hjl
  have := c2 i i1
  rw [i2] at this
  exact Int.le_trans (key j hjl) this
end Go.Proofs
namespace Go.Proofs
open Go Go.Ab
set_option maxHeartbeats 8000000
set_option maxRecDepth 100000
attribute [local irreducible] Awp aops aopsL Go.Ab.Pure PureOwn PureTwoM
theorem fewW_size {l : List Wk} {n : Int} (h : fewW l n = true) : (l.length : Int) ≤ n ∧ ∀ q ∈ l, q.af.length ≤ 20 ∧ q.id.size ≤ 100 := by
  unfold fewW at h
  rw [Bool.and_eq_true, decide_eq_true_eq, List.all_eq_true] at h
  refine ⟨h.1, fun q hq => ?_⟩
  have := h.2 q hq
  unfold bigWk at this
  simp only [Bool.not_eq_true', Bool.or_eq_false_iff, decide_eq_false_iff_not] at this
  omega
end Go.Proofs
