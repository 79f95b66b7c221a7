import Derived.Test.YtpmcoiomcjgehaaWalkA
import Derived.Test.YtpmcoiomcjgehaaShelf
import Derived.Test.YtpmcoiomcjgehaaLayC
import Derived.Test.YtpmcoiomcjgehaaLayB
section
set_option linter.unusedVariables false
set_option linter.unusedSimpArgs false
namespace Go.Proofs
open Go Go.Ab Go.Shelf Go.RowKit Go.Lib Go.Sort
set_option maxRecDepth 100000
set_option linter.unusedSimpArgs false
set_option linter.unusedVariables false
theorem ltA (x y : Int × Int) : ltOf (fun x y : Int × Int => Lib.compareInt x.1 y.1) x y = decide (x.1 < y.1) := by
  unfold ltOf Lib.compareInt
  by_cases h1 : x.1 < y.1
  · simp [h1]
  · by_cases h2 : y.1 < x.1 <;> simp [h1, h2]
theorem swoA : SWO (ltOf fun x y : Int × Int => Lib.compareInt x.1 y.1) where
  irrefl x := by rw [ltA]; simp
  trans x y z h1 h2 := by rw [ltA] at *; simp at *; omega
  ntrans x y z h1 h2 := by rw [ltA] at *; simp at *; omega
set_option maxHeartbeats 1000000 in
theorem closure36 (x y : Int × Int) (W : World) : Calls Try.prog 36 #[.agg #[.int .i64 x.1, .int .i64 x.2], .agg #[.int .i64 y.1, .int .i64 y.2]] W fun e w' => e = .returned (.int .i64 (Lib.compareInt x.1 y.1)) ∧ ∃ q os', w' = grow (W.drewN q) os' := by
  have hcon := fun W' => AnyG.cmp_Compare_int Try.cmpInt x.1 y.1 W'
  change ∀ W', Calls Try.prog 37 _ _ _ at hcon
  generalize Lib.compareInt x.1 y.1 = r at hcon ⊢
  go_enter Try.func36, Try.ntmps36
  go_wp2_with (go_at_call 37; refine (hcon _).mono ?_; rintro e w' ⟨rfl, rfl⟩)
  go_ret
  exact ⟨rfl, 0, _, by rw [alloc_eq_grow, alloc_eq_grow, grow_grow]; rfl⟩
def toP (s : Sp) : Int × Int := (s.a, s.b)
def ofP (p : Int × Int) : Sp := ⟨p.1, p.2⟩
theorem prs_to (l : List Sp) : prs (l.map toP) = sps l := by simp [prs, sps, toP, Sp.cells]
theorem prs_of (l : List (Int × Int)) : prs l = sps (l.map ofP) := by simp [prs, sps, ofP, Sp.cells]
theorem of_to (l : List Sp) : (l.map toP).map ofP = l := by
  rw [List.map_map]
  have : ofP ∘ toP = id := by funext s; rfl
  rw [this, List.map_id]
theorem sort35_cc (l t : List Sp) (hl : l.length < 1000000) : ∃ m : List Sp, (∀ x, x ∈ m ↔ x ∈ l) ∧ m.length = l.length ∧ m.Pairwise (fun x y => x.a ≤ y.a) ∧
    ∀ b nm, CallC Try.prog 35 [.pre b m.length, .fn 36 []] [(b, .row (sps (l ++ t)) 2 29)] nm (.tup []) [(b, some (.row (sps (m ++ t)) 2 29))] := by
  have hs := sortP_spec (fun x y => Lib.compareInt x.1 y.1) swoA (l.map toP)
  have hlen := sortP_len (fun x y => Lib.compareInt x.1 y.1) swoA (l.map toP)
  have key := fun b nm => sortF_cc Try.sortIv (fun w => Try.isAgg29 w) (fun w => Try.sizeOf29 w) ⟨_, Try.func35, by kernel_rfl, by kernel_rfl⟩ (fun x y => Lib.compareInt x.1 y.1) swoA 36 (enters_of Try.func36 (by kernel_rfl) rfl) closure36 (l.map toP) (t.map toP) b nm 29 (by simpa using hl)
  refine ⟨(sortP (fun x y => Lib.compareInt x.1 y.1) (l.map toP)).map ofP, fun x => ?_, by simpa using hlen, ?_, fun b nm => ?_⟩
  · rw [List.mem_map]
    constructor
    · rintro ⟨p, hp, rfl⟩
      have := hs.1.mem_iff.1 hp
      obtain ⟨s, hs', rfl⟩ := List.mem_map.1 this
      exact hs'
    · intro hx
      exact ⟨toP x, hs.1.mem_iff.2 (List.mem_map.2 ⟨x, hx, rfl⟩), rfl⟩
  · rw [List.pairwise_map]
    refine hs.2.imp fun {x y} h => ?_
    rw [ltA] at h
    have := of_decide_eq_false h
    show x.1 ≤ y.1
    omega
  · have h := key b nm
    rw [prs_append, prs_to, prs_to, prs_append, prs_of, prs_to] at h
    rw [sps_append l t, sps_append _ t]
    have e1 : ((sortP (fun x y => Lib.compareInt x.1 y.1) (l.map toP)).map ofP).length = (l.map toP).length := by simpa using hlen
    rw [e1]
    exact h
theorem clone33 (l : List Sp) (hl : l.length < 1000000) : PureOwn Try.prog 33 [.sl (sps l)] (sps l) 2 29 := by
  have h := clone_of Try.cloneSp ⟨_, Try.func33, by kernel_rfl, by kernel_rfl⟩ _ _ 2 16 (show Try.prog.info? (Try.cloneSp_ren.t 23) = some _ from rfl) rfl rfl rfl rfl (by omega) (fun w => Try.sizeOf29 w) (sps l) (sps_one l) (by rw [sps_len]; omega)
  exact h
end Go.Proofs
end
section
set_option linter.unusedVariables false
set_option linter.unusedSimpArgs false
namespace Go.Proofs
open Go Go.Ab
set_option maxHeartbeats 4000000
set_option maxRecDepth 100000
set_option linter.unusedSimpArgs false
set_option linter.unusedVariables false
attribute [local irreducible] Awp aops aopsL Go.Ab.Pure PureOwn
def nmS (m T M : List Sp) (i : Nat) : AState := mkS [(4, .own 3), (13, .pre 2 m.length), (14, .v (.int .i64 m.length)), (15, .v (.int .i64 i))] [(2, .row (sps (m ++ T)) 2 29), (3, .row (sps M) 2 29)]
theorem sps_rep (n : Nat) : sps (List.replicate n zeroSp) = List.replicate n zrow := by simp [sps, zeroSp, Sp.cells, zrow]
theorem normal_ok (l : List Sp) (hl : l.length < 100000) : PureOwn Try.prog 14 [.sl (sps l)] (sps (canon l)) 2 29 := by
  have c0 := clone33 l (by omega)
  have hkl : (l.filter fullB).length ≤ l.length := List.length_filter_le _ _
  have c1 := fun nm h => del_cc l nm hl h
  have hdr : delRow l = sps (l.filter fullB ++ List.replicate (l.length - (l.filter fullB).length) zeroSp) := by
    unfold delRow; rw [sps_append, sps_rep]
  rw [hdr] at c1
  obtain ⟨m, hm, hml, hmp, c2⟩ := sort35_cc (l.filter fullB) (List.replicate (l.length - (l.filter fullB).length) zeroSp) (by omega)
  have hcan := merge_canon hmp hm
  rw [← hcan]
  generalize List.replicate (l.length - (l.filter fullB).length) zeroSp = T at *
  rw [← hml] at c1
  have hmb : m.length < 100000 := by omega
  generalize l.filter fullB = F at *
  clear hdr hkl hm hml hmp hcan
  refine fn_own Try.F14 (Nat.le_of_ble_eq_true rfl) ?_; unfold Try.ac14
  repeat' (first
    | (apply Awp.sreg; (case hn => (simp only [List.length_cons, List.length_nil, Nat.reduceAdd] <;> rfl)))
    | (refine st_nil ?_)
    | (apply st_a; (case hc => rfl); (case he => (simp only [go_sem, *] <;> rfl)); (case hu => (simp only [updL_nil, updL_cons] <;> rfl)); (case hp => first | trivial | assumption | omega | (simp; done) | (simp; omega) | (simp [*]; done) | ((repeat' (refine And.intro ?_ ?_)) <;> first | trivial | assumption | omega | (simp; done) | (simp; omega) | (simp [*]; done))))
    | (apply st_co; (case hc => (simp only [go_sem, *] <;> rfl)); (case hl => (simp only [go_sem, *] <;> rfl)); (case hn => (simp only [go_sem, *] <;> rfl)); (case hp => first | exact c0 | (have hXz := c0; simp only [go_sem, *] at hXz; exact hXz)))
    | (apply st_cc; (case hc => (simp only [go_sem, *] <;> rfl)); (case hcc => exact (c1 _ (by omega))); (case hh => (first | (simp only [List.mem_singleton, forall_eq]; first | (simp only [go_sem, *] <;> rfl) | (simp only [go_sem, *]; simp [ints])) | (intro p hp; cases hp; done) | (intro p hp; simp only [List.mem_cons, List.not_mem_nil, or_false] at hp; rcases hp with rfl | rfl | rfl | rfl | rfl | rfl | rfl <;> (simp only [go_sem, *] <;> rfl)) | (intro p hp; simp only [List.mem_cons, List.not_mem_nil, or_false] at hp; rcases hp with rfl | rfl | rfl | rfl <;> (simp only [go_sem, *] <;> rfl)))); (case hu => (first | (simp; done) | decide)); (case hm => (first | decide | (simp; done))); (case hw => (simp only [updL_nil, updL_cons] <;> rfl)))
    | (apply st_cc; (case hc => (simp only [go_sem, *] <;> rfl)); (case hcc => exact (c2 _ _)); (case hh => (first | (simp only [List.mem_singleton, forall_eq]; first | (simp only [go_sem, *] <;> rfl) | (simp only [go_sem, *]; simp [ints])) | (intro p hp; cases hp; done) | (intro p hp; simp only [List.mem_cons, List.not_mem_nil, or_false] at hp; rcases hp with rfl | rfl | rfl | rfl | rfl | rfl | rfl <;> (simp only [go_sem, *] <;> rfl)) | (intro p hp; simp only [List.mem_cons, List.not_mem_nil, or_false] at hp; rcases hp with rfl | rfl | rfl | rfl <;> (simp only [go_sem, *] <;> rfl)))); (case hu => (first | (simp; done) | decide)); (case hm => (first | decide | (simp; done))); (case hw => (simp only [updL_nil, updL_cons] <;> rfl)))
    | refine Awp.block ?_
    | refine Awp.seq ?_)
  clear c0 c1 c2
  refine Awp.loop (fun i : Nat => i ≤ m.length) 200 (fun i => nmS m T (mergeS (m.take i)) i) (fun i => m.length - i) 0 (by omega) ?_ ?_
  · refine Ghost.trans (Ghost.name 4 2 29 rfl (by decide)) ?_
    have e1 : mergeS (m.take 0) = [] := rfl
    rw [e1]
    unfold nmS
    (apply Ghost.mk [(3, 11)] []; (case hdead => rfl); (case hinj => rfl); (case hV => (simp only [go_sem, *]) <;> (repeat' (first | refine And.intro ?_ ?_ | exact View.int (by first | rfl | omega | (simp; done) | (rw [wrap_i64] <;> (try simp only [Int.natCast_add]) <;> omega) | (simp [*]; done)) | exact .own rfl (by decide) | exact .pre rfl (by decide)))); (case hB => (simp only [go_sem, *]) <;> (repeat' (first | refine And.intro ?_ ?_ | exact ⟨_, rfl, .rowE (by first | rfl | omega | (simp; done) | (rw [wrap_i64] <;> (try simp only [Int.natCast_add]) <;> omega) | (simp [*]; done))⟩))))
  · intro i hi
    have hmT : (sps (m ++ T)).length = m.length + T.length := by rw [sps_len]; simp
    by_cases hlt : i < m.length
    · have hlt' : (i : Int) < m.length := by omega
      have hat : (sps (m ++ T)).getD i [] = (m.getD i zeroSp).cells := by
        rw [sps_at _ _ (by simp; omega)]
        congr 1
        simp only [List.getD_eq_getElem?_getD]
        rw [List.getElem?_append_left hlt]
      have hz : ((m.getD i zeroSp).cells).length = 2 := rfl
      have hst := merge_stepL m i hlt
      have hMl : (mergeS (m.take i)).length ≤ i := by have := merge_len (m.take i); simp at this; omega
      generalize mergeS (m.take i) = M at *
      generalize m.getD i zeroSp = s at *
      have esn := sps_snoc M s
      have eon := sps_one M
      have hMn := sps_len M
      by_cases hM : M.length = 0
      · have hn : decide ((0 : Int) < (M.length : Int)) = false := decide_eq_false (by omega)
        unfold stepM at hst
        rw [if_neg (by omega)] at hst
        have hst' : Kept (mergeS (m.take (i + 1)) = M ++ [s]) := hst
        clear hst hM
        unfold nmS
        repeat' (first
    | (apply Awp.sreg; (case hn => (simp only [List.length_cons, List.length_nil, Nat.reduceAdd] <;> rfl)))
    | (apply Awp.sdraw; (case hn => (simp only [List.length_cons, List.length_nil, Nat.reduceAdd] <;> rfl)))
    | (refine st_nil ?_)
    | (apply st_a; (case hc => rfl); (case he => (simp only [go_sem, *] <;> rfl)); (case hu => (simp only [updL_nil, updL_cons] <;> rfl)); (case hp => first | trivial | assumption | omega | (simp; done) | (simp; omega) | (simp [*]; done) | ((repeat' (refine And.intro ?_ ?_)) <;> first | trivial | assumption | omega | (simp; done) | (simp; omega) | (simp [*]; done))))
    | (apply Awp.reg; (case hn => (simp only [List.length_cons, List.length_nil, Nat.reduceAdd] <;> rfl)))
    | (refine Awp.skip ?_; try simp only [go_sem, *])
    | refine Awp.block ?_
    | (apply Awp.cond; (case hc => (simp only [go_sem, *] <;> rfl)); all_goals (intro hg; (try simp only [Bool.not_true, Bool.not_false, reduceCtorEq] at hg)))
    | refine Awp.seq ?_
    | (apply sl_a; (case hc => rfl); (case he => (simp only [go_sem, *] <;> rfl)); (case hu => (simp only [updL_nil, updL_cons] <;> rfl)); (case hl => (simp only [List.map_cons, List.map_nil] <;> rfl)); (case hp => first | trivial | assumption | omega | (simp; done) | (simp; omega) | (simp [*]; done) | ((repeat' (refine And.intro ?_ ?_)) <;> first | trivial | assumption | omega | (simp; done) | (simp; omega) | (simp [*]; done))))
    | (apply sl_gn; (case hv => (simp only [go_sem, *] <;> rfl)); (case hbw => rfl))
    | (refine sl_nil (And.intro (by first | exact drawOk_of (by decide +kernel) | (simp only [List.map_cons, List.map_nil]; exact drawOk_of (by decide +kernel)) | decide) ?_)))
        refine ⟨i + 1, by omega, by omega, ?_⟩
        rw [hst'.out]
        (apply Ghost.mk [(3, 224)] []; (case hdead => rfl); (case hinj => rfl); (case hV => (simp only [go_sem, *]) <;> (repeat' (first | refine And.intro ?_ ?_ | exact View.int (by first | rfl | omega | (simp; done) | (rw [wrap_i64] <;> (try simp only [Int.natCast_add]) <;> omega) | (simp [*]; done)) | exact .own rfl (by decide) | exact .pre rfl (by decide)))); (case hB => (simp only [go_sem, *]) <;> (repeat' (first | refine And.intro ?_ ?_ | exact ⟨_, rfl, .rowE (by first | rfl | omega | (simp; done) | (rw [wrap_i64] <;> (try simp only [Int.natCast_add]) <;> omega) | (simp [*]; done))⟩))))
      · obtain ⟨n, hn⟩ : ∃ n : Nat, M.length = n + 1 := ⟨M.length - 1, by omega⟩
        have hw2 : IntKind.i64.wrap ((M.length : Int) - 1) = (n : Int) := by rw [wrap_i64 (by omega) (by omega)]; omega
        have hn0 : decide ((0 : Int) < (M.length : Int)) = true := decide_eq_true (by omega)
        have hnM : n < M.length := by omega
        have hnM' : (n : Int) < M.length := by omega
        have hatn := sps_at M n hnM
        have hzn : ((M.getD n zeroSp).cells).length = 2 := rfl
        unfold stepM at hst
        rw [show M.length - 1 = n by omega] at hst
        by_cases hc : s.a ≤ (M.getD n zeroSp).b
        · rw [if_pos ⟨by omega, hc⟩] at hst
          have hc' : decide (s.a ≤ (M.getD n zeroSp).b) = true := decide_eq_true hc
          have hmx : (if (M.getD n zeroSp).b < s.b then s.b else (M.getD n zeroSp).b) = max (M.getD n zeroSp).b s.b := by
            rw [Int.max_def]; split <;> split <;> omega
          have hfin : (sps M).set n [.v (.int .i64 (M.getD n zeroSp).a), .v (.int .i64 (max (M.getD n zeroSp).b s.b))] = sps (mergeS (m.take (i + 1))) := by
            rw [hst]; exact sps_set M n ⟨(M.getD n zeroSp).a, max (M.getD n zeroSp).b s.b⟩
          generalize M.getD n zeroSp = y at *
          clear hc hn hst hM
          unfold nmS
          repeat' (first
    | (apply Awp.sreg; (case hn => (simp only [List.length_cons, List.length_nil, Nat.reduceAdd] <;> rfl)))
    | (apply Awp.sdraw; (case hn => (simp only [List.length_cons, List.length_nil, Nat.reduceAdd] <;> rfl)))
    | (refine st_nil ?_)
    | (apply st_a; (case hc => rfl); (case he => (simp only [go_sem, *] <;> rfl)); (case hu => (simp only [updL_nil, updL_cons] <;> rfl)); (case hp => first | trivial | assumption | omega | (simp; done) | (simp; omega) | (simp [*]; done) | ((repeat' (refine And.intro ?_ ?_)) <;> first | trivial | assumption | omega | (simp; done) | (simp; omega) | (simp [*]; done))))
    | (apply Awp.reg; (case hn => (simp only [List.length_cons, List.length_nil, Nat.reduceAdd] <;> rfl)))
    | (refine Awp.skip ?_; try simp only [go_sem, *])
    | refine Awp.block ?_
    | (apply Awp.cond; (case hc => (simp only [go_sem, *] <;> rfl)); all_goals (intro hg; (try simp only [Bool.not_true, Bool.not_false, reduceCtorEq] at hg)))
    | refine Awp.seq ?_
    | (refine Awp.draw ?_)
    | (apply sl_a; (case hc => rfl); (case he => (simp only [go_sem, *] <;> rfl)); (case hu => (simp only [updL_nil, updL_cons] <;> rfl)); (case hl => (simp only [List.map_cons, List.map_nil] <;> rfl)); (case hp => first | trivial | assumption | omega | (simp; done) | (simp; omega) | (simp [*]; done) | ((repeat' (refine And.intro ?_ ?_)) <;> first | trivial | assumption | omega | (simp; done) | (simp; omega) | (simp [*]; done))))
    | (apply sl_ga; (case hb => rfl); (case hv => (simp only [go_sem, *] <;> rfl)); (case he => (simp only [go_sem, *] <;> rfl)); (case hu => (simp only [updL_nil, updL_cons] <;> rfl)); (case hl => (simp only [List.map_cons, List.map_nil] <;> rfl)); (case hp => first | trivial | assumption | omega | (simp; done) | (simp; omega) | (simp [*]; done) | ((repeat' (refine And.intro ?_ ?_)) <;> first | trivial | assumption | omega | (simp; done) | (simp; omega) | (simp [*]; done))))
    | (refine sl_nil (And.intro (by first | exact drawOk_of (by decide +kernel) | (simp only [List.map_cons, List.map_nil]; exact drawOk_of (by decide +kernel)) | decide) ?_)))
          refine ⟨i + 1, by omega, by omega, ?_⟩
          (apply Ghost.mk [] []; (case hdead => rfl); (case hinj => rfl); (case hV => (simp only [go_sem, *]) <;> (repeat' (first | refine And.intro ?_ ?_ | exact View.int (by first | rfl | exact hfin | omega | (simp; done) | (rw [wrap_i64] <;> (try simp only [Int.natCast_add]) <;> omega) | (simp [*]; done)) | exact .own rfl (by decide) | exact .pre rfl (by decide)))); (case hB => (simp only [go_sem, *]) <;> (repeat' (first | refine And.intro ?_ ?_ | exact ⟨_, rfl, .rowE (by first | rfl | exact hfin | omega | (simp; done) | (rw [wrap_i64] <;> (try simp only [Int.natCast_add]) <;> omega) | (simp [*]; done))⟩))))
        · rw [if_neg (fun h => hc h.2)] at hst
          have hst' : Kept (mergeS (m.take (i + 1)) = M ++ [s]) := hst
          have hc' : decide (s.a ≤ (M.getD n zeroSp).b) = false := decide_eq_false hc
          generalize M.getD n zeroSp = y at *
          clear hc hn hM hst
          unfold nmS
          repeat' (first
    | (apply Awp.sreg; (case hn => (simp only [List.length_cons, List.length_nil, Nat.reduceAdd] <;> rfl)))
    | (apply Awp.sdraw; (case hn => (simp only [List.length_cons, List.length_nil, Nat.reduceAdd] <;> rfl)))
    | (refine st_nil ?_)
    | (apply st_a; (case hc => rfl); (case he => (simp only [go_sem, *] <;> rfl)); (case hu => (simp only [updL_nil, updL_cons] <;> rfl)); (case hp => first | trivial | assumption | omega | (simp; done) | (simp; omega) | (simp [*]; done) | ((repeat' (refine And.intro ?_ ?_)) <;> first | trivial | assumption | omega | (simp; done) | (simp; omega) | (simp [*]; done))))
    | (apply Awp.reg; (case hn => (simp only [List.length_cons, List.length_nil, Nat.reduceAdd] <;> rfl)))
    | (refine Awp.skip ?_; try simp only [go_sem, *])
    | refine Awp.block ?_
    | (apply Awp.cond; (case hc => (simp only [go_sem, *] <;> rfl)); all_goals (intro hg; (try simp only [Bool.not_true, Bool.not_false, reduceCtorEq] at hg)))
    | refine Awp.seq ?_
    | (apply sl_a; (case hc => rfl); (case he => (simp only [go_sem, *] <;> rfl)); (case hu => (simp only [updL_nil, updL_cons] <;> rfl)); (case hl => (simp only [List.map_cons, List.map_nil] <;> rfl)); (case hp => first | trivial | assumption | omega | (simp; done) | (simp; omega) | (simp [*]; done) | ((repeat' (refine And.intro ?_ ?_)) <;> first | trivial | assumption | omega | (simp; done) | (simp; omega) | (simp [*]; done))))
    | (apply sl_ga; (case hb => rfl); (case hv => (simp only [go_sem, *] <;> rfl)); (case he => (simp only [go_sem, *] <;> rfl)); (case hu => (simp only [updL_nil, updL_cons] <;> rfl)); (case hl => (simp only [List.map_cons, List.map_nil] <;> rfl)); (case hp => first | trivial | assumption | omega | (simp; done) | (simp; omega) | (simp [*]; done) | ((repeat' (refine And.intro ?_ ?_)) <;> first | trivial | assumption | omega | (simp; done) | (simp; omega) | (simp [*]; done))))
    | (refine sl_nil (And.intro (by first | exact drawOk_of (by decide +kernel) | (simp only [List.map_cons, List.map_nil]; exact drawOk_of (by decide +kernel)) | decide) ?_)))
          refine ⟨i + 1, by omega, by omega, ?_⟩
          rw [hst'.out]
          (apply Ghost.mk [(3, 224)] []; (case hdead => rfl); (case hinj => rfl); (case hV => (simp only [go_sem, *]) <;> (repeat' (first | refine And.intro ?_ ?_ | exact View.int (by first | rfl | omega | (simp; done) | (rw [wrap_i64] <;> (try simp only [Int.natCast_add]) <;> omega) | (simp [*]; done)) | exact .own rfl (by decide) | exact .pre rfl (by decide)))); (case hB => (simp only [go_sem, *]) <;> (repeat' (first | refine And.intro ?_ ?_ | exact ⟨_, rfl, .rowE (by first | rfl | omega | (simp; done) | (rw [wrap_i64] <;> (try simp only [Int.natCast_add]) <;> omega) | (simp [*]; done))⟩))))
    · have hlt' : ¬ (i : Int) < m.length := by omega
      have e1 : m.take i = m := List.take_of_length_le (by omega)
      rw [e1]
      unfold nmS
      repeat' (first
    | (apply Awp.sreg; (case hn => (simp only [List.length_cons, List.length_nil, Nat.reduceAdd] <;> rfl)))
    | (refine st_nil ?_)
    | (apply st_a; (case hc => rfl); (case he => (simp only [go_sem, *] <;> rfl)); (case hu => (simp only [updL_nil, updL_cons] <;> rfl)); (case hp => first | trivial | assumption | omega | (simp; done) | (simp; omega) | (simp [*]; done) | ((repeat' (refine And.intro ?_ ?_)) <;> first | trivial | assumption | omega | (simp; done) | (simp; omega) | (simp [*]; done))))
    | (refine Awp.ret ?_; try simp only [go_sem, *])
    | (refine Awp.exit ?_; try simp only [go_sem, *])
    | (apply Awp.cond; (case hc => (simp only [go_sem, *] <;> rfl)); all_goals (intro hg; (try simp only [Bool.not_true, Bool.not_false, reduceCtorEq] at hg)))
    | refine Awp.seq ?_)
      exact ⟨_, rfl, rfl⟩
end Go.Proofs
end
section
set_option linter.unusedVariables false
set_option linter.unusedSimpArgs false
namespace Go.Proofs
open Go Go.Ab
set_option maxHeartbeats 4000000
set_option maxRecDepth 100000
set_option linter.unusedSimpArgs false
set_option linter.unusedVariables false
attribute [local irreducible] Awp aops aopsL Go.Ab.Pure PureOwn
theorem wrap_u64 (n : Int) : IntKind.u64.wrap n = n % 18446744073709551616 := by
  simp [IntKind.wrap, IntKind.bits, IntKind.signed]
def InR (l : List Sp) : Prop := ∀ s ∈ l, -9223372036854775808 ≤ s.a ∧ s.b ≤ 9223372036854775807
theorem canon_inR {l : List Sp} (h : InR l) : InR (canon l) := canon_ends h (canon_is l).1 (fun n hn => ((canon_is l).2 n).1 hn)
theorem canon_len (l : List Sp) : (canon l).length ≤ l.length := by
  have h1 := merge_len (rinL l)
  rw [rin_canon] at h1
  exact Nat.le_trans h1 (rin_len l)
def maxI : Int := 9223372036854775807
def totalL (l : List Sp) : Int := if 9223372036854775807 < lenS (canon l) then 9223372036854775807 else lenS (canon l)
theorem lenS_snoc (l : List Sp) (i : Nat) (h : i < l.length) : lenS (l.take (i + 1)) = lenS (l.take i) + ((l.getD i zeroSp).b - (l.getD i zeroSp).a) := by
  rw [take_snocP l i h, lenS_append]
  simp [lenS]
theorem canon_sub {l : List Sp} (h : Canon l) {m : List Sp} (hs : m.Sublist l) : Canon m := ⟨h.1.sublist hs, fun s hm => h.2 s (hs.subset hm)⟩
theorem lenS_take {l : List Sp} (h : Canon l) (hr : InR l) (i : Nat) : 0 ≤ lenS (l.take i) ∧ lenS (l.take i) ≤ 18446744073709551615 := by
  have hc := canon_sub h (List.take_sublist i l)
  refine ⟨lenS_nonneg hc, ?_⟩
  have := lenS_le (lo := -9223372036854775808) (hi := 9223372036854775807) hc (by omega) (fun s hs => hr s (List.mem_of_mem_take hs))
  omega
theorem lenS_mono {l : List Sp} (h : Canon l) (i : Nat) : lenS (l.take i) ≤ lenS l := by
  have e : lenS l = lenS (l.take i) + lenS (l.drop i) := by rw [← lenS_append, List.take_append_drop]
  have := lenS_nonneg (canon_sub h (List.drop_sublist i l))
  omega
theorem get_mem {l : List Sp} {i : Nat} (h : i < l.length) : l.getD i zeroSp ∈ l := by
  rw [List.getD_eq_getElem?_getD, List.getElem?_eq_getElem h]
  exact List.getElem_mem h
def rtS (c : List Sp) (i : Nat) : AState := mkS [(3, .v (.int .u64 (lenS (c.take i)))), (4, .own 2), (5, .v (.int .i64 i))] [(2, .row (sps c) 2 29)]
theorem rtotal_ok (l : List Sp) (hr : InR l) (hl : l.length < 100000) : Pure Try.prog 17 [.sl (sps l)] (.v (.int .i64 (totalL l))) := by
  have c0 := rnormal_ok l hl
  have hc := (canon_is l).1
  have hcr := canon_inR hr
  have hcl := canon_len l
  unfold totalL
  generalize canon l = c at *
  refine fn_pure Try.F17 (Nat.le_of_ble_eq_true rfl) ?_; unfold Try.ac17
  repeat' (first
    | (apply Awp.sreg; (case hn => (simp only [List.length_cons, List.length_nil, Nat.reduceAdd] <;> rfl)))
    | (refine st_nil ?_)
    | (apply st_a; (case hc => rfl); (case he => (simp only [go_sem, *] <;> rfl)); (case hu => (simp only [updL_nil, updL_cons] <;> rfl)); (case hp => first | trivial | assumption | omega | (simp; done) | (simp; omega) | (simp [*]; done) | ((repeat' (refine And.intro ?_ ?_)) <;> first | trivial | assumption | omega | (simp; done) | (simp; omega) | (simp [*]; done))))
    | (apply st_co; (case hc => (simp only [go_sem, *] <;> rfl)); (case hl => (simp only [go_sem, *] <;> rfl)); (case hn => (simp only [go_sem, *] <;> rfl)); (case hp => first | exact c0 | (have hXz := c0; simp only [go_sem, *] at hXz; exact hXz)))
    | refine Awp.block ?_
    | refine Awp.seq ?_)
  clear c0
  refine Awp.loop (fun i : Nat => i ≤ c.length) 100 (fun i => rtS c i) (fun i => c.length - i) 0 (by omega) ?_ ?_
  · have e1 : lenS (c.take 0) = 0 := rfl
    unfold rtS
    (apply Ghost.mk [(2, 3)] []; (case hdead => rfl); (case hinj => rfl); (case hV => (simp only [go_sem, *]) <;> (repeat' (first | refine And.intro ?_ ?_ | exact View.int (by first | rfl | omega | (simp; done) | (rw [wrap_i64] <;> (try simp only [Int.natCast_add]) <;> omega) | (simp [*]; done)) | exact .own rfl (by decide)))); (case hB => (simp only [go_sem, *]) <;> (repeat' (first | exact ⟨_, rfl, .rowE (by first | rfl | omega | (simp; done) | (rw [wrap_i64] <;> (try simp only [Int.natCast_add]) <;> omega) | (simp [*]; done))⟩))))
  · intro i hi
    have hcn := sps_len c
    by_cases hlt : i < c.length
    · have hlt' : (i : Int) < c.length := by omega
      have hat := sps_at c i hlt
      have hz : ((c.getD i zeroSp).cells).length = 2 := rfl
      have hs := lenS_snoc c i hlt
      have h1 := lenS_take hc hcr i
      have h2 := lenS_take hc hcr (i + 1)
      have hw : IntKind.u64.wrap (IntKind.u64.wrap (lenS (c.take i) + IntKind.u64.wrap (c.getD i zeroSp).b) - IntKind.u64.wrap (c.getD i zeroSp).a) = lenS (c.take (i + 1)) := by
        rw [hs] at h2 ⊢
        simp only [wrap_u64]
        omega
      clear hs h1 h2
      obtain ⟨m, hm⟩ : ∃ m, lenS (c.take (i + 1)) = m := ⟨_, rfl⟩
      rw [hm] at hw
      generalize c.getD i zeroSp = s at *
      unfold rtS
      repeat' (first
    | (apply Awp.sreg; (case hn => (simp only [List.length_cons, List.length_nil, Nat.reduceAdd] <;> rfl)))
    | (refine st_nil ?_)
    | (apply st_a; (case hc => rfl); (case he => (simp only [go_sem, *] <;> rfl)); (case hu => (simp only [updL_nil, updL_cons] <;> rfl)); (case hp => first | trivial | assumption | omega | (simp; done) | (simp; omega) | (simp [*]; done) | ((repeat' (refine And.intro ?_ ?_)) <;> first | trivial | assumption | omega | (simp; done) | (simp; omega) | (simp [*]; done))))
    | (apply Awp.reg; (case hn => (simp only [List.length_cons, List.length_nil, Nat.reduceAdd] <;> rfl)))
    | (refine Awp.skip ?_; try simp only [go_sem, *])
    | refine Awp.block ?_
    | (apply Awp.cond; (case hc => (simp only [go_sem, *] <;> rfl)); all_goals (intro hg; (try simp only [Bool.not_true, Bool.not_false, reduceCtorEq] at hg)))
    | refine Awp.seq ?_
    | (refine Awp.draw ?_)
    | (apply sl_a; (case hc => rfl); (case he => (simp only [go_sem, *] <;> rfl)); (case hu => (simp only [updL_nil, updL_cons] <;> rfl)); (case hl => (simp only [List.map_cons, List.map_nil] <;> rfl)); (case hp => first | trivial | assumption | omega | (simp; done) | (simp; omega) | (simp [*]; done) | ((repeat' (refine And.intro ?_ ?_)) <;> first | trivial | assumption | omega | (simp; done) | (simp; omega) | (simp [*]; done))))
    | (refine sl_nil (And.intro (by first | exact drawOk_of (by decide +kernel) | (simp only [List.map_cons, List.map_nil]; exact drawOk_of (by decide +kernel)) | decide) ?_)))
      refine ⟨i + 1, by omega, by omega, ?_⟩
      rw [hm]
      (apply Ghost.mk [] []; (case hdead => rfl); (case hinj => rfl); (case hV => (simp only [go_sem, *]) <;> (repeat' (first | refine And.intro ?_ ?_ | exact View.int (by first | rfl | omega | (simp; done) | (rw [wrap_i64] <;> (try simp only [Int.natCast_add]) <;> omega) | (simp [*]; done)) | exact .own rfl (by decide)))); (case hB => (simp only [go_sem, *]) <;> (repeat' (first | exact ⟨_, rfl, .rowE (by first | rfl | omega | (simp; done) | (rw [wrap_i64] <;> (try simp only [Int.natCast_add]) <;> omega) | (simp [*]; done))⟩))))
    · have hlt' : ¬ (i : Int) < c.length := by omega
      have e1 : c.take i = c := List.take_of_length_le (by omega)
      have h1 := lenS_take hc hcr i
      rw [e1] at h1
      have hw : IntKind.i64.wrap (lenS c) = lenS c ∨ 9223372036854775807 < lenS c := by
        by_cases hb : 9223372036854775807 < lenS c
        · exact .inr hb
        · exact .inl (wrap_i64 (by omega) (by omega))
      unfold rtS
      rw [e1]
      clear h1 hc hcr e1
      generalize lenS c = n at *
      by_cases hb : 9223372036854775807 < n
      · rw [if_pos hb]
        have hb' : decide ((9223372036854775807 : Int) < n) = true := decide_eq_true hb
        clear hw hb
        repeat' (first
    | (apply Awp.sreg; (case hn => (simp only [List.length_cons, List.length_nil, Nat.reduceAdd] <;> rfl)))
    | (refine st_nil ?_)
    | (apply st_a; (case hc => rfl); (case he => (simp only [go_sem, *] <;> rfl)); (case hu => (simp only [updL_nil, updL_cons] <;> rfl)); (case hp => first | trivial | assumption | omega | (simp; done) | (simp; omega) | (simp [*]; done) | ((repeat' (refine And.intro ?_ ?_)) <;> first | trivial | assumption | omega | (simp; done) | (simp; omega) | (simp [*]; done))))
    | (refine Awp.ret ?_; try simp only [go_sem, *])
    | (refine Awp.exit ?_; try simp only [go_sem, *])
    | (apply Awp.cond; (case hc => (simp only [go_sem, *] <;> rfl)); all_goals (intro hg; (try simp only [Bool.not_true, Bool.not_false, reduceCtorEq] at hg)))
    | refine Awp.seq ?_)
        all_goals repeat' (first | exact Lower.int (by first | rfl | (simp only [true_and, Bool.true_and, Bool.false_and, Bool.and_true, Bool.and_false, Bool.true_or, Bool.false_or, reduceIte, Bool.false_eq_true, *]; done) | (simp only [true_and, reduceIte, Bool.false_eq_true, *] <;> rfl) | (simp [true_and]; done) | (simp_all [true_and]; done) | omega))
      · rw [if_neg hb]
        have hb' : decide ((9223372036854775807 : Int) < n) = false := decide_eq_false hb
        have hw := hw.resolve_right hb
        clear hb
        repeat' (first
    | (apply Awp.sreg; (case hn => (simp only [List.length_cons, List.length_nil, Nat.reduceAdd] <;> rfl)))
    | (refine st_nil ?_)
    | (apply st_a; (case hc => rfl); (case he => (simp only [go_sem, *] <;> rfl)); (case hu => (simp only [updL_nil, updL_cons] <;> rfl)); (case hp => first | trivial | assumption | omega | (simp; done) | (simp; omega) | (simp [*]; done) | ((repeat' (refine And.intro ?_ ?_)) <;> first | trivial | assumption | omega | (simp; done) | (simp; omega) | (simp [*]; done))))
    | (refine Awp.ret ?_; try simp only [go_sem, *])
    | (refine Awp.skip ?_; try simp only [go_sem, *])
    | (refine Awp.exit ?_; try simp only [go_sem, *])
    | (apply Awp.cond; (case hc => (simp only [go_sem, *] <;> rfl)); all_goals (intro hg; (try simp only [Bool.not_true, Bool.not_false, reduceCtorEq] at hg)))
    | refine Awp.seq ?_)
        all_goals repeat' (first | exact Lower.int (by first | rfl | (simp only [true_and, Bool.true_and, Bool.false_and, Bool.and_true, Bool.and_false, Bool.true_or, Bool.false_or, reduceIte, Bool.false_eq_true, *]; done) | (simp only [true_and, reduceIte, Bool.false_eq_true, *] <;> rfl) | (simp [true_and]; done) | (simp_all [true_and]; done) | omega))
theorem sps_dry (l : List Sp) : ∀ y ∈ sps l, ∀ c ∈ y, Dry c := by
  intro y hy c hc
  obtain ⟨s, _, rfl⟩ := List.mem_map.1 hy
  simp only [Sp.cells, List.mem_cons, List.not_mem_nil, or_false] at hc
  rcases hc with rfl | rfl <;> exact .v _
theorem runion_ok (a b : List Sp) (ha : a.length < 10000) (hb : b.length < 10000) : PureOwn Try.prog 27 [.sl (sps a), .sl (sps b)] (sps (canon (a ++ b))) 2 29 := by
  have c0 := rnormal_ok (a ++ b) (by simp; omega)
  have h1 := sps_one a
  have h2 := sps_one b
  have h3 := (sps_append a b).symm
  have h4 := sps_len a
  have h5 := sps_len b
  refine fn_own Try.F27 (Nat.le_of_ble_eq_true rfl) ?_; unfold Try.ac27
  repeat' (first
    | (apply Awp.sreg; (case hn => (simp only [List.length_cons, List.length_nil, Nat.reduceAdd] <;> rfl)))
    | (refine st_nil ?_)
    | (apply st_a; (case hc => rfl); (case he => (simp only [go_sem, *] <;> rfl)); (case hu => (simp only [updL_nil, updL_cons] <;> rfl)); (case hp => first | trivial | assumption | omega | (simp; done) | (simp; omega) | (simp [*]; done) | ((repeat' (refine And.intro ?_ ?_)) <;> first | trivial | assumption | omega | (simp; done) | (simp; omega) | (simp [*]; done))))
    | (apply st_cod; (case hc => (simp only [go_sem, *] <;> rfl)); (case hl => (simp only [go_sem, *] <;> rfl)); (case hn => (simp only [go_sem, *] <;> rfl)); (case hp => first | exact c0 | (have hXz := c0; simp only [go_sem, *] at hXz; exact hXz)); (case hd => first | exact sps_dry _ | exact ints_dry _ | (repeat' (first | exact Dry.v _ | exact Dry.any | exact Dry.nils | exact Dry.slE | refine Dry.agg ?_ | refine Dry.tup ?_ | (refine List.forall_mem_cons.2 (And.intro ?_ ?_)) | (intro cQ hQ; cases hQ; done)))); (case hm => first | decide | (simp; done)))
    | (refine Awp.ret ?_; try simp only [go_sem, *]))
  all_goals exact ⟨_, rfl, rfl⟩
def riS (a b L : List Sp) (i : Nat) : AState := mkS [(0, .sl (sps a)), (1, .sl (sps b)), (5, .own 2), (6, .v (.int .i64 i))] [(2, .row (sps L) 2 29)]
def rijS (a b L : List Sp) (i j : Nat) : AState := mkS [(0, .sl (sps a)), (1, .sl (sps b)), (5, .own 2), (6, .v (.int .i64 i)), (7, .v (.int .i64 j))] [(2, .row (sps L) 2 29)]
def meet (s t : Sp) : Sp := ⟨max s.a t.a, min s.b t.b⟩
theorem inter_step (a b : List Sp) (i : Nat) (h : i < a.length) : interL (a.take (i + 1)) b = interL (a.take i) b ++ b.map (meet (a.getD i zeroSp)) := by
  unfold interL
  rw [take_snocP a i h, List.flatMap_append]
  simp [meet]
theorem map_step (s : Sp) (b : List Sp) (j : Nat) (h : j < b.length) : (b.take (j + 1)).map (meet s) = (b.take j).map (meet s) ++ [meet s (b.getD j zeroSp)] := by
  rw [take_snocP b j h]; simp
theorem inter_len (a b : List Sp) : (interL a b).length = a.length * b.length := by
  unfold interL
  induction a with
  | nil => simp
  | cons s a ih => simp only [List.flatMap_cons, List.length_append, List.length_map, ih, List.length_cons]; rw [Nat.add_mul]; omega
theorem rinter_ok (a b : List Sp) (ha : a.length < 300) (hb : b.length < 300) : PureOwn Try.prog 28 [.sl (sps a), .sl (sps b)] (sps (canon (interL a b))) 2 29 := by
  have hlen : ∀ i j, i ≤ a.length → j ≤ b.length → (interL (a.take i) b).length + j ≤ 90300 := by
    intro i j hi hj
    rw [inter_len]
    have : (a.take i).length * b.length ≤ 300 * 300 := Nat.mul_le_mul (by simp; omega) (by omega)
    omega
  refine fn_own Try.F28 (Nat.le_of_ble_eq_true rfl) ?_; unfold Try.ac28
  repeat' (first
    | (apply Awp.sreg; (case hn => (simp only [List.length_cons, List.length_nil, Nat.reduceAdd] <;> rfl)))
    | (refine st_nil ?_)
    | (apply st_a; (case hc => rfl); (case he => (simp only [go_sem, *] <;> rfl)); (case hu => (simp only [updL_nil, updL_cons] <;> rfl)); (case hp => first | trivial | assumption | omega | (simp; done) | (simp; omega) | (simp [*]; done) | ((repeat' (refine And.intro ?_ ?_)) <;> first | trivial | assumption | omega | (simp; done) | (simp; omega) | (simp [*]; done))))
    | refine Awp.block ?_
    | refine Awp.seq ?_)
  refine Awp.loop (fun i : Nat => i ≤ a.length) 200 (fun i => riS a b (interL (a.take i) b) i) (fun i => a.length - i) 0 (by omega) ?_ ?_
  · refine Ghost.trans (Ghost.name 5 2 29 rfl (by decide)) ?_
    have e1 : interL (a.take 0) b = [] := rfl
    rw [e1]
    unfold riS
    (apply Ghost.mk [(2, 3)] []; (case hdead => rfl); (case hinj => rfl); (case hV => (simp only [go_sem, *]) <;> (repeat' (first | refine And.intro ?_ ?_ | exact View.int (by first | rfl | omega | (simp; done) | (rw [wrap_i64] <;> (try simp only [Int.natCast_add]) <;> omega) | (simp [*]; done)) | exact .own rfl (by decide)))); (case hB => (simp only [go_sem, *]) <;> (repeat' (first | exact ⟨_, rfl, .rowE (by first | rfl | omega | (simp; done) | (rw [wrap_i64] <;> (try simp only [Int.natCast_add]) <;> omega) | (simp [*]; done))⟩))))
  · intro i hi
    by_cases hlt : i < a.length
    · have hlt' : (i : Int) < a.length := by omega
      have hat := sps_at a i hlt
      have hz : ((a.getD i zeroSp).cells).length = 2 := rfl
      have hst := inter_step a b i hlt
      have hl0 := hlen i
      generalize interL (a.take i) b = L at *
      obtain ⟨s, hs⟩ : ∃ s, a.getD i zeroSp = s := ⟨_, rfl⟩
      rw [hs] at hat hz hst
      have hst' : Kept (interL (a.take (i + 1)) b = L ++ b.map (meet s)) := hst
      clear hs hst hlen
      unfold riS
      repeat' (first
    | (apply Awp.sreg; (case hn => (simp only [List.length_cons, List.length_nil, Nat.reduceAdd] <;> rfl)))
    | (refine st_nil ?_)
    | (apply st_a; (case hc => rfl); (case he => (simp only [go_sem, *] <;> rfl)); (case hu => (simp only [updL_nil, updL_cons] <;> rfl)); (case hp => first | trivial | assumption | omega | (simp; done) | (simp; omega) | (simp [*]; done) | ((repeat' (refine And.intro ?_ ?_)) <;> first | trivial | assumption | omega | (simp; done) | (simp; omega) | (simp [*]; done))))
    | (refine Awp.skip ?_; try simp only [go_sem, *])
    | refine Awp.block ?_
    | (apply Awp.cond; (case hc => (simp only [go_sem, *] <;> rfl)); all_goals (intro hg; (try simp only [Bool.not_true, Bool.not_false, reduceCtorEq] at hg)))
    | refine Awp.seq ?_)
      refine Awp.loop (fun j : Nat => j ≤ b.length) 300 (fun j => rijS a b (L ++ (b.take j).map (meet s)) i j) (fun j => b.length - j) 0 (by omega) ?_ ?_
      · have e1 : L ++ (b.take 0).map (meet s) = L := by simp
        rw [e1]
        unfold rijS
        (apply Ghost.mk [] []; (case hdead => rfl); (case hinj => rfl); (case hV => (simp only [go_sem, *]) <;> (repeat' (first | refine And.intro ?_ ?_ | exact View.int (by first | rfl | omega | (simp; done) | (rw [wrap_i64] <;> (try simp only [Int.natCast_add]) <;> omega) | (simp [*]; done)) | exact .own rfl (by decide)))); (case hB => (simp only [go_sem, *]) <;> (repeat' (first | exact ⟨_, rfl, .rowE (by first | rfl | omega | (simp; done) | (rw [wrap_i64] <;> (try simp only [Int.natCast_add]) <;> omega) | (simp [*]; done))⟩))))
      · intro j hj
        by_cases hjl : j < b.length
        · have hjl' : (j : Int) < b.length := by omega
          have hatj := sps_at b j hjl
          have hzj : ((b.getD j zeroSp).cells).length = 2 := rfl
          have hms := map_step s b j hjl
          have hl1 := hl0 j hi hj
          have hl2 : (L ++ (b.take j).map (meet s)).length = L.length + j := by simp; omega
          obtain ⟨t, ht⟩ : ∃ t, b.getD j zeroSp = t := ⟨_, rfl⟩
          rw [ht] at hatj hzj hms
          have hmx : (if s.a < t.a then t.a else s.a) = (meet s t).a := by unfold meet; dsimp only; rw [Int.max_def]; split <;> split <;> omega
          have hmn : (if t.b < s.b then t.b else s.b) = (meet s t).b := by unfold meet; dsimp only; rw [Int.min_def]; split <;> split <;> omega
          have hnext : Kept (L ++ (b.take (j + 1)).map (meet s) = L ++ (b.take j).map (meet s) ++ [meet s t]) := by unfold Kept; rw [hms, List.append_assoc]
          generalize L ++ (b.take j).map (meet s) = M at *
          generalize meet s t = u at *
          have esn := sps_snoc M u
          have eon := sps_one M
          have hMn := sps_len M
          clear hms ht
          unfold rijS
          repeat' (first
    | (apply Awp.sreg; (case hn => (simp only [List.length_cons, List.length_nil, Nat.reduceAdd] <;> rfl)))
    | (refine st_nil ?_)
    | (apply st_a; (case hc => rfl); (case he => (simp only [go_sem, *] <;> rfl)); (case hu => (simp only [updL_nil, updL_cons] <;> rfl)); (case hp => first | trivial | assumption | omega | (simp; done) | (simp; omega) | (simp [*]; done) | ((repeat' (refine And.intro ?_ ?_)) <;> first | trivial | assumption | omega | (simp; done) | (simp; omega) | (simp [*]; done))))
    | (apply Awp.reg; (case hn => (simp only [List.length_cons, List.length_nil, Nat.reduceAdd] <;> rfl)))
    | (refine Awp.skip ?_; try simp only [go_sem, *])
    | refine Awp.block ?_
    | (apply Awp.cond; (case hc => (simp only [go_sem, *] <;> rfl)); all_goals (intro hg; (try simp only [Bool.not_true, Bool.not_false, reduceCtorEq] at hg)))
    | refine Awp.seq ?_
    | (refine Awp.draw ?_)
    | (apply sl_a; (case hc => rfl); (case he => (simp only [go_sem, *] <;> rfl)); (case hu => (simp only [updL_nil, updL_cons] <;> rfl)); (case hl => (simp only [List.map_cons, List.map_nil] <;> rfl)); (case hp => first | trivial | assumption | omega | (simp; done) | (simp; omega) | (simp [*]; done) | ((repeat' (refine And.intro ?_ ?_)) <;> first | trivial | assumption | omega | (simp; done) | (simp; omega) | (simp [*]; done))))
    | (refine sl_nil (And.intro (by first | exact drawOk_of (by decide +kernel) | (simp only [List.map_cons, List.map_nil]; exact drawOk_of (by decide +kernel)) | decide) ?_)))
          refine ⟨j + 1, by omega, by omega, ?_⟩
          rw [hnext.out]
          (apply Ghost.mk [(2, 329)] []; (case hdead => rfl); (case hinj => rfl); (case hV => (simp only [go_sem, *]) <;> (repeat' (first | refine And.intro ?_ ?_ | exact View.int (by first | rfl | omega | (simp; done) | (rw [wrap_i64] <;> (try simp only [Int.natCast_add]) <;> omega) | (simp [*]; done)) | exact .own rfl (by decide)))); (case hB => (simp only [go_sem, *]) <;> (repeat' (first | exact ⟨_, rfl, .rowE (by first | rfl | omega | (simp; done) | (rw [wrap_i64] <;> (try simp only [Int.natCast_add]) <;> omega) | (simp [*]; done))⟩))))
        · have hjl' : ¬ (j : Int) < b.length := by omega
          have e1 : b.take j = b := List.take_of_length_le (by omega)
          rw [e1]
          unfold rijS
          repeat' (first
    | (apply Awp.sreg; (case hn => (simp only [List.length_cons, List.length_nil, Nat.reduceAdd] <;> rfl)))
    | (refine st_nil ?_)
    | (apply st_a; (case hc => rfl); (case he => (simp only [go_sem, *] <;> rfl)); (case hu => (simp only [updL_nil, updL_cons] <;> rfl)); (case hp => first | trivial | assumption | omega | (simp; done) | (simp; omega) | (simp [*]; done) | ((repeat' (refine And.intro ?_ ?_)) <;> first | trivial | assumption | omega | (simp; done) | (simp; omega) | (simp [*]; done))))
    | (apply Awp.reg; (case hn => (simp only [List.length_cons, List.length_nil, Nat.reduceAdd] <;> rfl)))
    | (refine Awp.exit ?_; try simp only [go_sem, *])
    | (apply Awp.cond; (case hc => (simp only [go_sem, *] <;> rfl)); all_goals (intro hg; (try simp only [Bool.not_true, Bool.not_false, reduceCtorEq] at hg)))
    | refine Awp.seq ?_)
          refine ⟨i + 1, by omega, by omega, ?_⟩
          rw [hst'.out]
          (apply Ghost.mk [] []; (case hdead => rfl); (case hinj => rfl); (case hV => (simp only [go_sem, *]) <;> (repeat' (first | refine And.intro ?_ ?_ | exact View.int (by first | rfl | omega | (simp; done) | (rw [wrap_i64] <;> (try simp only [Int.natCast_add]) <;> omega) | (simp [*]; done)) | exact .own rfl (by decide)))); (case hB => (simp only [go_sem, *]) <;> (repeat' (first | exact ⟨_, rfl, .rowE (by first | rfl | omega | (simp; done) | (rw [wrap_i64] <;> (try simp only [Int.natCast_add]) <;> omega) | (simp [*]; done))⟩))))
    · have hlt' : ¬ (i : Int) < a.length := by omega
      have e1 : a.take i = a := List.take_of_length_le (by omega)
      rw [e1]
      have hl1 := hlen a.length 0 (by omega) (by omega)
      rw [List.take_of_length_le (Nat.le_refl _)] at hl1
      have c0 := rnormal_ok (interL a b) (by omega)
      generalize canon (interL a b) = c at *
      generalize interL a b = L at *
      clear hlen
      unfold riS
      repeat' (first
    | (apply Awp.sreg; (case hn => (simp only [List.length_cons, List.length_nil, Nat.reduceAdd] <;> rfl)))
    | (refine st_nil ?_)
    | (apply st_a; (case hc => rfl); (case he => (simp only [go_sem, *] <;> rfl)); (case hu => (simp only [updL_nil, updL_cons] <;> rfl)); (case hp => first | trivial | assumption | omega | (simp; done) | (simp; omega) | (simp [*]; done) | ((repeat' (refine And.intro ?_ ?_)) <;> first | trivial | assumption | omega | (simp; done) | (simp; omega) | (simp [*]; done))))
    | (apply st_cod; (case hc => (simp only [go_sem, *] <;> rfl)); (case hl => (simp only [go_sem, *] <;> rfl)); (case hn => (simp only [go_sem, *] <;> rfl)); (case hp => first | exact c0 | (have hXz := c0; simp only [go_sem, *] at hXz; exact hXz)); (case hd => first | exact sps_dry _ | exact ints_dry _ | (repeat' (first | exact Dry.v _ | exact Dry.any | exact Dry.nils | exact Dry.slE | refine Dry.agg ?_ | refine Dry.tup ?_ | (refine List.forall_mem_cons.2 (And.intro ?_ ?_)) | (intro cQ hQ; cases hQ; done)))); (case hm => first | decide | (simp; done)))
    | (refine Awp.ret ?_; try simp only [go_sem, *])
    | (refine Awp.exit ?_; try simp only [go_sem, *])
    | (apply Awp.cond; (case hc => (simp only [go_sem, *] <;> rfl)); all_goals (intro hg; (try simp only [Bool.not_true, Bool.not_false, reduceCtorEq] at hg)))
    | refine Awp.seq ?_)
      all_goals exact ⟨_, rfl, rfl⟩
end Go.Proofs
end
section
set_option linter.unusedVariables false
set_option linter.unusedSimpArgs false
namespace Go.Proofs
open Go Go.Ab
set_option maxHeartbeats 4000000
set_option maxRecDepth 100000
set_option linter.unusedSimpArgs false
set_option linter.unusedVariables false
attribute [local irreducible] Awp aops aopsL Go.Ab.Pure PureOwn
theorem asc_sub : ∀ (P E : List Int), P.Pairwise (· < ·) → (∀ x ∈ P, x ∈ E) → P.length ≤ E.length
  | [], E, _, _ => by simp
  | p :: P, E, hp, h => by
    have hp' := List.pairwise_cons.1 hp
    have hpe := h p (by simp)
    have := asc_sub P (E.erase p) hp'.2 (fun x hx => (List.mem_erase_of_ne (by have := hp'.1 x hx; omega)).2 (h x (by simp [hx])))
    rw [List.length_erase_of_mem hpe] at this
    have : 0 < E.length := List.length_pos_of_mem hpe
    simp only [List.length_cons]
    omega
/-- The beginnings of a canonical form. -/
theorem rise {c : List Sp} (hc : Canon c) {s : Sp} (hs : s ∈ c) : hasS c s.a ∧ ¬ hasS c (s.a - 1) := by
  refine ⟨⟨s, hs, Int.le_refl _, hc.2 s hs⟩, fun ⟨t, ht, h1, h2⟩ => ?_⟩
  obtain ⟨i, hi, rfl⟩ := List.getElem_of_mem hs
  obtain ⟨j, hj, rfl⟩ := List.getElem_of_mem ht
  have hp := List.pairwise_iff_getElem.1 hc.1
  rcases Nat.lt_trichotomy i j with h | h | h
  · have := hp i j hi hj h
    have := hc.2 c[i] (List.getElem_mem hi)
    omega
  · subst h; omega
  · have := hp j i hj hi h
    omega
theorem canon_count {c : List Sp} (hc : Canon c) {E : List Int} (h : ∀ p, hasS c p → ¬ hasS c (p - 1) → p ∈ E) : c.length ≤ E.length := by
  have hp : (c.map (·.a)).Pairwise (· < ·) := by
    rw [List.pairwise_map]
    exact (List.Pairwise.and_mem.1 hc.1).imp fun {s t} ⟨hs, ht, hst⟩ => by have := hc.2 s hs; omega
  have := asc_sub (c.map (·.a)) E hp (fun x hx => by
    obtain ⟨s, hs, rfl⟩ := List.mem_map.1 hx
    have := rise hc hs
    exact h _ this.1 this.2)
  simpa using this
theorem start_of {a : List Sp} {p : Int} (h1 : hasS a p) (h2 : ¬ hasS a (p - 1)) : p ∈ a.map (·.a) := by
  obtain ⟨s, hs, h3, h4⟩ := h1
  by_cases h : s.a = p
  · exact List.mem_map.2 ⟨s, hs, h⟩
  · exact absurd ⟨s, hs, by omega, by omega⟩ h2
theorem end_of {b : List Sp} {p : Int} (h1 : ¬ hasS b p) (h2 : hasS b (p - 1)) : p ∈ b.map (·.b) := by
  obtain ⟨s, hs, h3, h4⟩ := h2
  by_cases h : s.b = p
  · exact List.mem_map.2 ⟨s, hs, h⟩
  · exact absurd ⟨s, hs, by omega, by omega⟩ h1
theorem minus_count {a b c : List Sp} (hc : Canon c) (h : ∀ n, hasS c n ↔ hasS a n ∧ ¬ hasS b n) : c.length ≤ a.length + b.length := by
  have := canon_count hc (E := a.map (·.a) ++ b.map (·.b)) (fun p h1 h2 => by
    rw [h] at h1 h2
    by_cases ha : hasS a (p - 1)
    · have hb : hasS b (p - 1) := Classical.not_not.1 fun hh => h2 ⟨ha, hh⟩
      exact List.mem_append.2 (.inr (end_of h1.2 hb))
    · exact List.mem_append.2 (.inl (start_of h1.1 ha)))
  simpa using this
def mkL (a b : List Sp) (k : Nat) : List Sp := (b.take k).foldl stepC (canon a)
theorem mkL_step (a b : List Sp) (k : Nat) (h : k < b.length) : mkL a b (k + 1) = stepC (mkL a b k) (b.getD k zeroSp) := by
  unfold mkL
  rw [take_snocP b k h, List.foldl_append]; rfl
theorem mkL_len (a b : List Sp) (k : Nat) : (mkL a b k).length ≤ a.length + b.length := by
  have h := minus_go (b.take k) (canon a) (canon_is a).1
  have := minus_count (a := a) (b := b.take k) h.1 (fun n => by rw [h.2 n, (canon_is a).2 n])
  have h2 : (b.take k).length ≤ b.length := by simp; omega
  show (List.foldl stepC (canon a) (b.take k)).length ≤ _
  omega
theorem minus_len (a b : List Sp) : (minusL a b).length ≤ a.length + b.length := by
  have := mkL_len a b b.length
  unfold mkL at this
  rw [List.take_of_length_le (Nat.le_refl _)] at this
  exact this
theorem cut_step (l : List Sp) (t : Sp) (i : Nat) (h : i < l.length) : cutL (l.take (i + 1)) t = cutL (l.take i) t ++ [⟨(l.getD i zeroSp).a, min (l.getD i zeroSp).b t.a⟩, ⟨max (l.getD i zeroSp).a t.b, (l.getD i zeroSp).b⟩] := by
  unfold cutL
  rw [take_snocP l i h, List.flatMap_append]
  simp
theorem cut_len (l : List Sp) (t : Sp) : (cutL l t).length = 2 * l.length := by
  unfold cutL
  induction l with
  | nil => rfl
  | cons s l ih => simp only [List.flatMap_cons, List.length_append, ih, List.length_cons, List.length_nil]; omega
def mnS (b L : List Sp) (k : Nat) : AState := mkS [(1, .sl (sps b)), (5, .own 2), (6, .v (.int .i64 k))] [(2, .row (sps L) 2 29)]
def mniS (b L N : List Sp) (k i : Nat) : AState := mkS [(1, .sl (sps b)), (5, .own 2), (6, .v (.int .i64 k)), (7, .own 3), (8, .v (.int .i64 i))] [(2, .row (sps L) 2 29), (3, .row (sps N) 2 29)]
theorem rminus_ok (a b : List Sp) (ha : a.length < 1000) (hb : b.length < 1000) : PureOwn Try.prog 30 [.sl (sps a), .sl (sps b)] (sps (minusL a b)) 2 29 := by
  have c0 := rnormal_ok a (by omega)
  have hml : ∀ k, (mkL a b k).length ≤ 2000 := fun k => by have := mkL_len a b k; omega
  have e0 : mkL a b 0 = canon a := rfl
  have e9 : mkL a b b.length = minusL a b := by unfold mkL minusL; rw [List.take_of_length_le (Nat.le_refl _)]
  rw [← e9]
  rw [← e0] at c0
  refine fn_own Try.F30 (Nat.le_of_ble_eq_true rfl) ?_; unfold Try.ac30
  repeat' (first
    | (apply Awp.sreg; (case hn => (simp only [List.length_cons, List.length_nil, Nat.reduceAdd] <;> rfl)))
    | (refine st_nil ?_)
    | (apply st_a; (case hc => rfl); (case he => (simp only [go_sem, *] <;> rfl)); (case hu => (simp only [updL_nil, updL_cons] <;> rfl)); (case hp => first | trivial | assumption | omega | (simp; done) | (simp; omega) | (simp [*]; done) | ((repeat' (refine And.intro ?_ ?_)) <;> first | trivial | assumption | omega | (simp; done) | (simp; omega) | (simp [*]; done))))
    | (apply st_co; (case hc => (simp only [go_sem, *] <;> rfl)); (case hl => (simp only [go_sem, *] <;> rfl)); (case hn => (simp only [go_sem, *] <;> rfl)); (case hp => first | exact c0 | (have hXz := c0; simp only [go_sem, *] at hXz; exact hXz)))
    | refine Awp.block ?_
    | refine Awp.seq ?_)
  clear c0 e0 e9
  refine Awp.loop (fun k : Nat => k ≤ b.length) 200 (fun k => mnS b (mkL a b k) k) (fun k => b.length - k) 0 (by omega) ?_ ?_
  · unfold mnS
    (apply Ghost.mk [(2, 2)] []; (case hdead => rfl); (case hinj => rfl); (case hV => (simp only [go_sem, *]) <;> (repeat' (first | refine And.intro ?_ ?_ | exact View.int (by first | rfl | omega | (simp; done) | (rw [wrap_i64] <;> (try simp only [Int.natCast_add]) <;> omega) | (simp [*]; done)) | exact .own rfl (by decide)))); (case hB => (simp only [go_sem, *]) <;> (repeat' (first | exact ⟨_, rfl, .rowE (by first | rfl | omega | (simp; done) | (rw [wrap_i64] <;> (try simp only [Int.natCast_add]) <;> omega) | (simp [*]; done))⟩))))
  · intro k hk
    by_cases hkl : k < b.length
    · have hkl' : (k : Int) < b.length := by omega
      have hat := sps_at b k hkl
      have hz : ((b.getD k zeroSp).cells).length = 2 := rfl
      have hst := mkL_step a b k hkl
      have hl1 := hml k
      generalize mkL a b k = L at *
      obtain ⟨t, ht⟩ : ∃ t, b.getD k zeroSp = t := ⟨_, rfl⟩
      rw [ht] at hat hz hst
      unfold stepC at hst
      by_cases hf : t.a < t.b
      case neg =>
        rw [if_neg hf] at hst
        have hB : decide (t.b ≤ t.a) = true := decide_eq_true (by omega)
        have hst' : Kept (mkL a b (k + 1) = L) := hst
        clear hst ht hf hml
        unfold mnS
        repeat' (first
    | (apply Awp.sreg; (case hn => (simp only [List.length_cons, List.length_nil, Nat.reduceAdd] <;> rfl)))
    | (apply Awp.sdraw; (case hn => (simp only [List.length_cons, List.length_nil, Nat.reduceAdd] <;> rfl)))
    | (refine st_nil ?_)
    | (apply st_a; (case hc => rfl); (case he => (simp only [go_sem, *] <;> rfl)); (case hu => (simp only [updL_nil, updL_cons] <;> rfl)); (case hp => first | trivial | assumption | omega | (simp; done) | (simp; omega) | (simp [*]; done) | ((repeat' (refine And.intro ?_ ?_)) <;> first | trivial | assumption | omega | (simp; done) | (simp; omega) | (simp [*]; done))))
    | (apply Awp.reg; (case hn => (simp only [List.length_cons, List.length_nil, Nat.reduceAdd] <;> rfl)))
    | (refine Awp.skip ?_; try simp only [go_sem, *])
    | (refine Awp.exit ?_; try simp only [go_sem, *])
    | refine Awp.block ?_
    | (apply Awp.cond; (case hc => (simp only [go_sem, *] <;> rfl)); all_goals (intro hg; (try simp only [Bool.not_true, Bool.not_false, reduceCtorEq] at hg)))
    | refine Awp.seq ?_
    | (apply sl_a; (case hc => rfl); (case he => (simp only [go_sem, *] <;> rfl)); (case hu => (simp only [updL_nil, updL_cons] <;> rfl)); (case hl => (simp only [List.map_cons, List.map_nil] <;> rfl)); (case hp => first | trivial | assumption | omega | (simp; done) | (simp; omega) | (simp [*]; done) | ((repeat' (refine And.intro ?_ ?_)) <;> first | trivial | assumption | omega | (simp; done) | (simp; omega) | (simp [*]; done))))
    | (refine sl_nil (And.intro (by first | exact drawOk_of (by decide +kernel) | (simp only [List.map_cons, List.map_nil]; exact drawOk_of (by decide +kernel)) | decide) ?_)))
        refine ⟨k + 1, by omega, by omega, ?_⟩
        rw [hst'.out]
        (apply Ghost.mk [] []; (case hdead => rfl); (case hinj => rfl); (case hV => (simp only [go_sem, *]) <;> (repeat' (first | refine And.intro ?_ ?_ | exact View.int (by first | rfl | omega | (simp; done) | (rw [wrap_i64] <;> (try simp only [Int.natCast_add]) <;> omega) | (simp [*]; done)) | exact .own rfl (by decide)))); (case hB => (simp only [go_sem, *]) <;> (repeat' (first | exact ⟨_, rfl, .rowE (by first | rfl | omega | (simp; done) | (rw [wrap_i64] <;> (try simp only [Int.natCast_add]) <;> omega) | (simp [*]; done))⟩))))
      rw [if_pos hf] at hst
      have hB : decide (t.b ≤ t.a) = false := decide_eq_false (by omega)
      have hst' : Kept (mkL a b (k + 1) = canon (cutL L t)) := hst
      clear hst ht hf hml
      unfold mnS
      repeat' (first
    | (apply Awp.sreg; (case hn => (simp only [List.length_cons, List.length_nil, Nat.reduceAdd] <;> rfl)))
    | (apply Awp.sdraw; (case hn => (simp only [List.length_cons, List.length_nil, Nat.reduceAdd] <;> rfl)))
    | (refine st_nil ?_)
    | (apply st_a; (case hc => rfl); (case he => (simp only [go_sem, *] <;> rfl)); (case hu => (simp only [updL_nil, updL_cons] <;> rfl)); (case hp => first | trivial | assumption | omega | (simp; done) | (simp; omega) | (simp [*]; done) | ((repeat' (refine And.intro ?_ ?_)) <;> first | trivial | assumption | omega | (simp; done) | (simp; omega) | (simp [*]; done))))
    | (refine Awp.skip ?_; try simp only [go_sem, *])
    | refine Awp.block ?_
    | (apply Awp.cond; (case hc => (simp only [go_sem, *] <;> rfl)); all_goals (intro hg; (try simp only [Bool.not_true, Bool.not_false, reduceCtorEq] at hg)))
    | refine Awp.seq ?_
    | (apply sl_a; (case hc => rfl); (case he => (simp only [go_sem, *] <;> rfl)); (case hu => (simp only [updL_nil, updL_cons] <;> rfl)); (case hl => (simp only [List.map_cons, List.map_nil] <;> rfl)); (case hp => first | trivial | assumption | omega | (simp; done) | (simp; omega) | (simp [*]; done) | ((repeat' (refine And.intro ?_ ?_)) <;> first | trivial | assumption | omega | (simp; done) | (simp; omega) | (simp [*]; done))))
    | (refine sl_nil (And.intro (by first | exact drawOk_of (by decide +kernel) | (simp only [List.map_cons, List.map_nil]; exact drawOk_of (by decide +kernel)) | decide) ?_)))
      refine Awp.loop (fun i : Nat => i ≤ L.length) 300 (fun i => mniS b L (cutL (L.take i) t) k i) (fun i => L.length - i) 0 (by omega) ?_ ?_
      · refine Ghost.trans (Ghost.name 7 2 29 rfl (by decide)) ?_
        have e1 : cutL (L.take 0) t = [] := rfl
        rw [e1]
        unfold mniS
        (apply Ghost.mk [(3, 217)] []; (case hdead => rfl); (case hinj => rfl); (case hV => (simp only [go_sem, *]) <;> (repeat' (first | refine And.intro ?_ ?_ | exact View.int (by first | rfl | omega | (simp; done) | (rw [wrap_i64] <;> (try simp only [Int.natCast_add]) <;> omega) | (simp [*]; done)) | exact .own rfl (by decide)))); (case hB => (simp only [go_sem, *]) <;> (repeat' (first | refine And.intro ?_ ?_ | exact ⟨_, rfl, .rowE (by first | rfl | omega | (simp; done) | (rw [wrap_i64] <;> (try simp only [Int.natCast_add]) <;> omega) | (simp [*]; done))⟩))))
      · intro i hi
        have hLn := sps_len L
        by_cases hil : i < L.length
        · have hil' : (i : Int) < L.length := by omega
          have hati := sps_at L i hil
          have hzi : ((L.getD i zeroSp).cells).length = 2 := rfl
          have hcs := cut_step L t i hil
          have hcl : (cutL (L.take i) t).length ≤ 2 * i := by rw [cut_len]; simp; omega
          obtain ⟨s, hs⟩ : ∃ s, L.getD i zeroSp = s := ⟨_, rfl⟩
          rw [hs] at hati hzi hcs
          have hmn : (if t.a < s.b then t.a else s.b) = min s.b t.a := by rw [Int.min_def]; split <;> split <;> omega
          have hmx : (if s.a < t.b then t.b else s.a) = max s.a t.b := by rw [Int.max_def]; split <;> split <;> omega
          have hnext : Kept (cutL (L.take (i + 1)) t = cutL (L.take i) t ++ [⟨s.a, min s.b t.a⟩] ++ [⟨max s.a t.b, s.b⟩]) := by unfold Kept; rw [hcs]; simp
          generalize cutL (L.take i) t = N at *
          have esn := sps_snoc N ⟨s.a, min s.b t.a⟩
          have esn2 := sps_snoc (N ++ [⟨s.a, min s.b t.a⟩]) ⟨max s.a t.b, s.b⟩
          have eon := sps_one N
          have hMn := sps_len N
          have eon2 := sps_one (N ++ [⟨s.a, min s.b t.a⟩])
          have hMn2 : (sps (N ++ [⟨s.a, min s.b t.a⟩])).length = N.length + 1 := by rw [sps_len]; simp
          dsimp only at esn esn2
          clear hcs hs
          unfold mniS
          repeat' (first
    | (apply Awp.sreg; (case hn => (simp only [List.length_cons, List.length_nil, Nat.reduceAdd] <;> rfl)))
    | (apply Awp.sdraw; (case hn => (simp only [List.length_cons, List.length_nil, Nat.reduceAdd] <;> rfl)))
    | (refine st_nil ?_)
    | (apply st_a; (case hc => rfl); (case he => (simp only [go_sem, *] <;> rfl)); (case hu => (simp only [updL_nil, updL_cons] <;> rfl)); (case hp => first | trivial | assumption | omega | (simp; done) | (simp; omega) | (simp [*]; done) | ((repeat' (refine And.intro ?_ ?_)) <;> first | trivial | assumption | omega | (simp; done) | (simp; omega) | (simp [*]; done))))
    | (apply Awp.reg; (case hn => (simp only [List.length_cons, List.length_nil, Nat.reduceAdd] <;> rfl)))
    | (refine Awp.skip ?_; try simp only [go_sem, *])
    | refine Awp.block ?_
    | (apply Awp.cond; (case hc => (simp only [go_sem, *] <;> rfl)); all_goals (intro hg; (try simp only [Bool.not_true, Bool.not_false, reduceCtorEq] at hg)))
    | refine Awp.seq ?_
    | (refine Awp.draw ?_)
    | (apply sl_a; (case hc => rfl); (case he => (simp only [go_sem, *] <;> rfl)); (case hu => (simp only [updL_nil, updL_cons] <;> rfl)); (case hl => (simp only [List.map_cons, List.map_nil] <;> rfl)); (case hp => first | trivial | assumption | omega | (simp; done) | (simp; omega) | (simp [*]; done) | ((repeat' (refine And.intro ?_ ?_)) <;> first | trivial | assumption | omega | (simp; done) | (simp; omega) | (simp [*]; done))))
    | (refine sl_nil (And.intro (by first | exact drawOk_of (by decide +kernel) | (simp only [List.map_cons, List.map_nil]; exact drawOk_of (by decide +kernel)) | decide) ?_)))
          refine ⟨i + 1, by omega, by omega, ?_⟩
          rw [hnext.out]
          (apply Ghost.mk [(3, 344)] []; (case hdead => rfl); (case hinj => rfl); (case hV => (simp only [go_sem, *]) <;> (repeat' (first | refine And.intro ?_ ?_ | exact View.int (by first | rfl | omega | (simp; done) | (rw [wrap_i64] <;> (try simp only [Int.natCast_add]) <;> omega) | (simp [*]; done)) | exact .own rfl (by decide)))); (case hB => (simp only [go_sem, *]) <;> (repeat' (first | refine And.intro ?_ ?_ | exact ⟨_, rfl, .rowE (by first | rfl | omega | (simp; done) | (rw [wrap_i64] <;> (try simp only [Int.natCast_add]) <;> omega) | (simp [*]; done))⟩))))
        · have hil' : ¬ (i : Int) < L.length := by omega
          have e1 : L.take i = L := List.take_of_length_le (by omega)
          rw [e1]
          have hcl := cut_len L t
          have c1 := rnormal_ok (cutL L t) (by omega)
          generalize cutL L t = N at *
          clear e1
          unfold mniS
          repeat' (first
    | (apply Awp.sreg; (case hn => (simp only [List.length_cons, List.length_nil, Nat.reduceAdd] <;> rfl)))
    | (refine st_nil ?_)
    | (apply st_a; (case hc => rfl); (case he => (simp only [go_sem, *] <;> rfl)); (case hu => (simp only [updL_nil, updL_cons] <;> rfl)); (case hp => first | trivial | assumption | omega | (simp; done) | (simp; omega) | (simp [*]; done) | ((repeat' (refine And.intro ?_ ?_)) <;> first | trivial | assumption | omega | (simp; done) | (simp; omega) | (simp [*]; done))))
    | (apply st_cod; (case hc => (simp only [go_sem, *] <;> rfl)); (case hl => (simp only [go_sem, *] <;> rfl)); (case hn => (simp only [go_sem, *] <;> rfl)); (case hp => first | exact c1 | (have hXz := c1; simp only [go_sem, *] at hXz; exact hXz)); (case hd => first | exact sps_dry _ | exact ints_dry _ | (repeat' (first | exact Dry.v _ | exact Dry.any | exact Dry.nils | exact Dry.slE | refine Dry.agg ?_ | refine Dry.tup ?_ | (refine List.forall_mem_cons.2 (And.intro ?_ ?_)) | (intro cQ hQ; cases hQ; done)))); (case hm => first | decide | (simp; done)))
    | (apply Awp.reg; (case hn => (simp only [List.length_cons, List.length_nil, Nat.reduceAdd] <;> rfl)))
    | (refine Awp.exit ?_; try simp only [go_sem, *])
    | (apply Awp.cond; (case hc => (simp only [go_sem, *] <;> rfl)); all_goals (intro hg; (try simp only [Bool.not_true, Bool.not_false, reduceCtorEq] at hg)))
    | refine Awp.seq ?_)
          refine ⟨k + 1, by omega, by omega, ?_⟩
          rw [hst'.out]
          (apply Ghost.mk [(2, 305)] []; (case hdead => rfl); (case hinj => rfl); (case hV => (simp only [go_sem, *]) <;> (repeat' (first | refine And.intro ?_ ?_ | exact View.int (by first | rfl | omega | (simp; done) | (rw [wrap_i64] <;> (try simp only [Int.natCast_add]) <;> omega) | (simp [*]; done)) | exact .own rfl (by decide)))); (case hB => (simp only [go_sem, *]) <;> (repeat' (first | exact ⟨_, rfl, .rowE (by first | rfl | omega | (simp; done) | (rw [wrap_i64] <;> (try simp only [Int.natCast_add]) <;> omega) | (simp [*]; done))⟩))))
    · have hkl' : ¬ (k : Int) < b.length := by omega
      have e1 : k = b.length := by omega
      subst e1
      unfold mnS
      repeat' (first
    | (apply Awp.sreg; (case hn => (simp only [List.length_cons, List.length_nil, Nat.reduceAdd] <;> rfl)))
    | (refine st_nil ?_)
    | (apply st_a; (case hc => rfl); (case he => (simp only [go_sem, *] <;> rfl)); (case hu => (simp only [updL_nil, updL_cons] <;> rfl)); (case hp => first | trivial | assumption | omega | (simp; done) | (simp; omega) | (simp [*]; done) | ((repeat' (refine And.intro ?_ ?_)) <;> first | trivial | assumption | omega | (simp; done) | (simp; omega) | (simp [*]; done))))
    | (refine Awp.ret ?_; try simp only [go_sem, *])
    | (refine Awp.exit ?_; try simp only [go_sem, *])
    | (apply Awp.cond; (case hc => (simp only [go_sem, *] <;> rfl)); all_goals (intro hg; (try simp only [Bool.not_true, Bool.not_false, reduceCtorEq] at hg)))
    | refine Awp.seq ?_)
      exact ⟨_, rfl, rfl⟩
theorem rgaps_ok (l : List Sp) (w : Sp) (hl : l.length < 1000) : PureOwn Try.prog 21 [.sl (sps l), w.av] (sps (minusL [w] l)) 2 29 := by
  have c0 := rminus_ok [w] l (by simp) hl
  have h1 := sps_one1 w
  refine fn_own Try.F21 (Nat.le_of_ble_eq_true rfl) ?_; unfold Try.ac21
  repeat' (first
    | (apply Awp.sreg; (case hn => (simp only [List.length_cons, List.length_nil, Nat.reduceAdd] <;> rfl)))
    | (refine st_nil ?_)
    | (apply st_a; (case hc => rfl); (case he => (simp only [go_sem, *] <;> rfl)); (case hu => (simp only [updL_nil, updL_cons] <;> rfl)); (case hp => first | trivial | assumption | omega | (simp; done) | (simp; omega) | (simp [*]; done) | ((repeat' (refine And.intro ?_ ?_)) <;> first | trivial | assumption | omega | (simp; done) | (simp; omega) | (simp [*]; done))))
    | (apply st_cod; (case hc => (simp only [go_sem, *] <;> rfl)); (case hl => (simp only [go_sem, *] <;> rfl)); (case hn => (simp only [go_sem, *] <;> rfl)); (case hp => first | exact c0 | (have hXz := c0; simp only [go_sem, *] at hXz; exact hXz)); (case hd => first | exact sps_dry _ | exact ints_dry _ | (repeat' (first | exact Dry.v _ | exact Dry.any | exact Dry.nils | exact Dry.slE | refine Dry.agg ?_ | refine Dry.tup ?_ | (refine List.forall_mem_cons.2 (And.intro ?_ ?_)) | (intro cQ hQ; cases hQ; done)))); (case hm => first | decide | (simp; done)))
    | (refine Awp.ret ?_; try simp only [go_sem, *]))
  all_goals exact ⟨_, rfl, rfl⟩
end Go.Proofs
end
section
set_option linter.unusedVariables false
set_option linter.unusedSimpArgs false
namespace Go.Proofs
open Go Go.Ab
set_option maxHeartbeats 4000000
set_option maxRecDepth 100000
set_option linter.unusedSimpArgs false
set_option linter.unusedVariables false
attribute [local irreducible] Awp aops aopsL Go.Ab.Pure PureOwn
def gtS (c : List Sp) (i : Nat) : AState := mkS [(3, .v (.int .u64 (lenS (c.take i)))), (7, .own 2), (8, .v (.int .i64 c.length)), (9, .v (.int .i64 i))] [(2, .row (sps c) 2 29)]
theorem total_ok (l : List Sp) (hr : InR l) (hl : l.length < 100000) : Pure Try.prog 16 [.sl (sps l)] (.v (.int .i64 (totalL l))) := by
  have c0 := normal_ok l hl
  have hc := (canon_is l).1
  have hcr := canon_inR hr
  have hcl := canon_len l
  unfold totalL
  generalize canon l = c at *
  refine fn_pure Try.F16 (Nat.le_of_ble_eq_true rfl) ?_; unfold Try.ac16
  repeat' (first
    | (apply Awp.sreg; (case hn => (simp only [List.length_cons, List.length_nil, Nat.reduceAdd] <;> rfl)))
    | (refine st_nil ?_)
    | (apply st_a; (case hc => rfl); (case he => (simp only [go_sem, *] <;> rfl)); (case hu => (simp only [updL_nil, updL_cons] <;> rfl)); (case hp => first | trivial | assumption | omega | (simp; done) | (simp; omega) | (simp [*]; done) | ((repeat' (refine And.intro ?_ ?_)) <;> first | trivial | assumption | omega | (simp; done) | (simp; omega) | (simp [*]; done))))
    | (apply st_co; (case hc => (simp only [go_sem, *] <;> rfl)); (case hl => (simp only [go_sem, *] <;> rfl)); (case hn => (simp only [go_sem, *] <;> rfl)); (case hp => first | exact c0 | (have hXz := c0; simp only [go_sem, *] at hXz; exact hXz)))
    | refine Awp.block ?_
    | refine Awp.seq ?_)
  clear c0
  refine Awp.loop (fun i : Nat => i ≤ c.length ∧ lenS (c.take i) ≤ 9223372036854775807) 100 (fun i => gtS c i) (fun i => c.length - i) 0 ⟨by omega, by simp [lenS]⟩ ?_ ?_
  · have e1 : lenS (c.take 0) = 0 := rfl
    unfold gtS
    (apply Ghost.mk [(2, 3)] []; (case hdead => rfl); (case hinj => rfl); (case hV => (simp only [go_sem, *]) <;> (repeat' (first | refine And.intro ?_ ?_ | exact View.int (by first | rfl | omega | (simp; done) | (rw [wrap_i64] <;> (try simp only [Int.natCast_add]) <;> omega) | (simp [*]; done)) | exact .own rfl (by decide)))); (case hB => (simp only [go_sem, *]) <;> (repeat' (first | exact ⟨_, rfl, .rowE (by first | rfl | omega | (simp; done) | (rw [wrap_i64] <;> (try simp only [Int.natCast_add]) <;> omega) | (simp [*]; done))⟩))))
  · intro i ⟨hi, hb⟩
    have hcn := sps_len c
    by_cases hlt : i < c.length
    · have hlt' : (i : Int) < c.length := by omega
      have hat := sps_at c i hlt
      have hz : ((c.getD i zeroSp).cells).length = 2 := rfl
      have hs := lenS_snoc c i hlt
      have h1 := lenS_take hc hcr i
      have h2 := lenS_take hc hcr (i + 1)
      have hmono := lenS_mono hc (i + 1)
      have hw : IntKind.u64.wrap (lenS (c.take i) + IntKind.u64.wrap (IntKind.u64.wrap (c.getD i zeroSp).b - IntKind.u64.wrap (c.getD i zeroSp).a)) = lenS (c.take (i + 1)) := by
        rw [hs] at h2 ⊢
        simp only [wrap_u64]
        omega
      clear hs h1 h2 hb
      obtain ⟨m, hm⟩ : ∃ m, lenS (c.take (i + 1)) = m := ⟨_, rfl⟩
      rw [hm] at hw hmono
      generalize c.getD i zeroSp = s at *
      have cd := dist_ok s.a s.b
      by_cases hmm : 9223372036854775807 < m
      · have hd : decide ((9223372036854775807 : Int) < m) = true := decide_eq_true hmm
        have hL : 9223372036854775807 < lenS c := by omega
        rw [if_pos hL]
        clear hmm hL hmono hc hcr hm
        unfold gtS
        repeat' (first
    | (apply Awp.sreg; (case hn => (simp only [List.length_cons, List.length_nil, Nat.reduceAdd] <;> rfl)))
    | (refine st_nil ?_)
    | (apply st_a; (case hc => rfl); (case he => (simp only [go_sem, *] <;> rfl)); (case hu => (simp only [updL_nil, updL_cons] <;> rfl)); (case hp => first | trivial | assumption | omega | (simp; done) | (simp; omega) | (simp [*]; done) | ((repeat' (refine And.intro ?_ ?_)) <;> first | trivial | assumption | omega | (simp; done) | (simp; omega) | (simp [*]; done))))
    | (apply st_c; (case hc => (simp only [go_sem, *] <;> rfl)); (case hl => (simp only [go_sem, *] <;> rfl)); (case hn => (simp only [go_sem, *] <;> rfl)); (case hp => first | exact cd | (have hXz := cd; simp only [go_sem, *] at hXz; exact hXz)))
    | (refine Awp.ret ?_; try simp only [go_sem, *])
    | (refine Awp.skip ?_; try simp only [go_sem, *])
    | refine Awp.block ?_
    | (apply Awp.cond; (case hc => (simp only [go_sem, *] <;> rfl)); all_goals (intro hg; (try simp only [Bool.not_true, Bool.not_false, reduceCtorEq] at hg)))
    | refine Awp.seq ?_)
        all_goals repeat' (first | exact Lower.int (by first | rfl | (simp only [true_and, Bool.true_and, Bool.false_and, Bool.and_true, Bool.and_false, Bool.true_or, Bool.false_or, reduceIte, Bool.false_eq_true, *]; done) | (simp only [true_and, reduceIte, Bool.false_eq_true, *] <;> rfl) | (simp [true_and]; done) | (simp_all [true_and]; done) | omega))
      · have hd : decide ((9223372036854775807 : Int) < m) = false := decide_eq_false hmm
        have hmm' : m ≤ 9223372036854775807 := by omega
        clear hmm hmono hc hcr
        unfold gtS
        repeat' (first
    | (apply Awp.sreg; (case hn => (simp only [List.length_cons, List.length_nil, Nat.reduceAdd] <;> rfl)))
    | (refine st_nil ?_)
    | (apply st_a; (case hc => rfl); (case he => (simp only [go_sem, *] <;> rfl)); (case hu => (simp only [updL_nil, updL_cons] <;> rfl)); (case hp => first | trivial | assumption | omega | (simp; done) | (simp; omega) | (simp [*]; done) | ((repeat' (refine And.intro ?_ ?_)) <;> first | trivial | assumption | omega | (simp; done) | (simp; omega) | (simp [*]; done))))
    | (apply st_c; (case hc => (simp only [go_sem, *] <;> rfl)); (case hl => (simp only [go_sem, *] <;> rfl)); (case hn => (simp only [go_sem, *] <;> rfl)); (case hp => first | exact cd | (have hXz := cd; simp only [go_sem, *] at hXz; exact hXz)))
    | (apply Awp.reg; (case hn => (simp only [List.length_cons, List.length_nil, Nat.reduceAdd] <;> rfl)))
    | (refine Awp.skip ?_; try simp only [go_sem, *])
    | refine Awp.block ?_
    | (apply Awp.cond; (case hc => (simp only [go_sem, *] <;> rfl)); all_goals (intro hg; (try simp only [Bool.not_true, Bool.not_false, reduceCtorEq] at hg)))
    | refine Awp.seq ?_)
        refine ⟨i + 1, ⟨by omega, by rw [hm]; exact hmm'⟩, by omega, ?_⟩
        rw [hm]
        (apply Ghost.mk [] []; (case hdead => rfl); (case hinj => rfl); (case hV => (simp only [go_sem, *]) <;> (repeat' (first | refine And.intro ?_ ?_ | exact View.int (by first | rfl | omega | (simp; done) | (rw [wrap_i64] <;> (try simp only [Int.natCast_add]) <;> omega) | (simp [*]; done)) | exact .own rfl (by decide)))); (case hB => (simp only [go_sem, *]) <;> (repeat' (first | exact ⟨_, rfl, .rowE (by first | rfl | omega | (simp; done) | (rw [wrap_i64] <;> (try simp only [Int.natCast_add]) <;> omega) | (simp [*]; done))⟩))))
    · have hlt' : ¬ (i : Int) < c.length := by omega
      have e1 : c.take i = c := List.take_of_length_le (by omega)
      have h1 := lenS_take hc hcr i
      rw [e1] at h1 hb
      rw [if_neg (by omega)]
      have hw : IntKind.i64.wrap (lenS c) = lenS c := wrap_i64 (by omega) (by omega)
      unfold gtS
      rw [e1]
      clear h1 hc hcr e1 hb
      generalize lenS c = n at *
      repeat' (first
    | (apply Awp.sreg; (case hn => (simp only [List.length_cons, List.length_nil, Nat.reduceAdd] <;> rfl)))
    | (refine st_nil ?_)
    | (apply st_a; (case hc => rfl); (case he => (simp only [go_sem, *] <;> rfl)); (case hu => (simp only [updL_nil, updL_cons] <;> rfl)); (case hp => first | trivial | assumption | omega | (simp; done) | (simp; omega) | (simp [*]; done) | ((repeat' (refine And.intro ?_ ?_)) <;> first | trivial | assumption | omega | (simp; done) | (simp; omega) | (simp [*]; done))))
    | (refine Awp.ret ?_; try simp only [go_sem, *])
    | (refine Awp.exit ?_; try simp only [go_sem, *])
    | (apply Awp.cond; (case hc => (simp only [go_sem, *] <;> rfl)); all_goals (intro hg; (try simp only [Bool.not_true, Bool.not_false, reduceCtorEq] at hg)))
    | refine Awp.seq ?_)
      all_goals repeat' (first | exact Lower.int (by first | rfl | (simp only [true_and, Bool.true_and, Bool.false_and, Bool.and_true, Bool.and_false, Bool.true_or, Bool.false_or, reduceIte, Bool.false_eq_true, *]; done) | (simp only [true_and, reduceIte, Bool.false_eq_true, *] <;> rfl) | (simp [true_and]; done) | (simp_all [true_and]; done) | omega))
def fitR (F : Int) : Int × Bool := if 4611686018427387904 ≤ F then (0, false) else (F, true)
def fitE (l : List Sp) (fr len : Int) : Int × Bool := if len < 1 then (0, false) else fitR (fitGo len (canon l) fr)
theorem fitR_pos {F : Int} (h : decide ((4611686018427387904 : Int) ≤ F) = true) : fitR F = (0, false) := if_pos (of_decide_eq_true h)
theorem fitR_neg {F : Int} (h : decide ((4611686018427387904 : Int) ≤ F) = false) : fitR F = (F, true) := if_neg (of_decide_eq_false h)
def gfS (c : List Sp) (len : Int) (q : Nat × Int) : AState := mkS [(2, .v (.int .i64 len)), (8, .v (.int .i64 q.2)), (15, .own 2), (16, .v (.int .i64 c.length)), (17, .v (.int .i64 q.1))] [(2, .row (sps c) 2 29)]
theorem fit_ok (l : List Sp) (fr len : Int) (hr : InR l) (hl : l.length < 100000) (hf : -9223372036854775808 ≤ fr ∧ fr ≤ 9223372036854775807) (hn : len ≤ 9223372036854775807) :
    Pure Try.prog 22 [.sl (sps l), .v (.int .i64 fr), .v (.int .i64 len)] (.tup [.v (.int .i64 (fitE l fr len).1), .v (.bool (fitE l fr len).2)]) := by
  have c0 := normal_ok l hl
  have hcl := canon_len l
  have hcr := canon_inR hr
  have hcan := (canon_is l).1
  unfold fitE
  by_cases h1 : len < 1
  · have h1' : decide (len < 1) = true := decide_eq_true h1
    rw [if_pos h1]
    clear h1
    refine fn_pure Try.F22 (Nat.le_of_ble_eq_true rfl) ?_; unfold Try.ac22
    repeat' (first
    | (apply Awp.sreg; (case hn => (simp only [List.length_cons, List.length_nil, Nat.reduceAdd] <;> rfl)))
    | (refine st_nil ?_)
    | (apply st_a; (case hc => rfl); (case he => (simp only [go_sem, *] <;> rfl)); (case hu => (simp only [updL_nil, updL_cons] <;> rfl)); (case hp => first | trivial | assumption | omega | (simp; done) | (simp; omega) | (simp [*]; done) | ((repeat' (refine And.intro ?_ ?_)) <;> first | trivial | assumption | omega | (simp; done) | (simp; omega) | (simp [*]; done))))
    | (refine Awp.ret ?_; try simp only [go_sem, *])
    | (apply Awp.cond; (case hc => (simp only [go_sem, *] <;> rfl)); all_goals (intro hg; (try simp only [Bool.not_true, Bool.not_false, reduceCtorEq] at hg)))
    | refine Awp.seq ?_)
    all_goals repeat' (first | exact Lower.bool (by first | rfl | (simp only [true_and, Bool.true_and, Bool.false_and, Bool.and_true, Bool.and_false, Bool.true_or, Bool.false_or, reduceIte, Bool.false_eq_true, *]; done) | (simp only [true_and, reduceIte, Bool.false_eq_true, *] <;> rfl) | (simp [true_and]; done) | (simp_all [true_and]; done) | omega) | exact Lower.int (by first | rfl | (simp only [true_and, Bool.true_and, Bool.false_and, Bool.and_true, Bool.and_false, Bool.true_or, Bool.false_or, reduceIte, Bool.false_eq_true, *]; done) | (simp only [true_and, reduceIte, Bool.false_eq_true, *] <;> rfl) | (simp [true_and]; done) | (simp_all [true_and]; done) | omega) | refine Lower.tupF ?_ | refine All2.cons ?_ ?_ | exact All2.nil)
  have h1' : decide (len < 1) = false := decide_eq_false h1
  rw [if_neg h1]
  obtain ⟨F, hF⟩ : ∃ F, fitGo len (canon l) fr = F := ⟨_, rfl⟩
  rw [hF]
  have hlp : 1 ≤ len := by omega
  clear h1
  generalize canon l = c at *
  refine fn_pure Try.F22 (Nat.le_of_ble_eq_true rfl) ?_; unfold Try.ac22
  repeat' (first
    | (apply Awp.sreg; (case hn => (simp only [List.length_cons, List.length_nil, Nat.reduceAdd] <;> rfl)))
    | (refine st_nil ?_)
    | (apply st_a; (case hc => rfl); (case he => (simp only [go_sem, *] <;> rfl)); (case hu => (simp only [updL_nil, updL_cons] <;> rfl)); (case hp => first | trivial | assumption | omega | (simp; done) | (simp; omega) | (simp [*]; done) | ((repeat' (refine And.intro ?_ ?_)) <;> first | trivial | assumption | omega | (simp; done) | (simp; omega) | (simp [*]; done))))
    | (apply st_co; (case hc => (simp only [go_sem, *] <;> rfl)); (case hl => (simp only [go_sem, *] <;> rfl)); (case hn => (simp only [go_sem, *] <;> rfl)); (case hp => first | exact c0 | (have hXz := c0; simp only [go_sem, *] at hXz; exact hXz)))
    | (refine Awp.skip ?_; try simp only [go_sem, *])
    | refine Awp.block ?_
    | (apply Awp.cond; (case hc => (simp only [go_sem, *] <;> rfl)); all_goals (intro hg; (try simp only [Bool.not_true, Bool.not_false, reduceCtorEq] at hg)))
    | refine Awp.seq ?_)
  clear c0
  refine Awp.loop (fun q : Nat × Int => q.1 ≤ c.length ∧ fitGo len (c.drop q.1) q.2 = F ∧ -9223372036854775808 ≤ q.2 ∧ q.2 ≤ 9223372036854775807) 100 (gfS c len) (fun q => c.length - q.1) (0, fr) ⟨by dsimp only; omega, hF, hf.1, hf.2⟩ ?_ ?_
  · unfold gfS
    dsimp only
    (apply Ghost.mk [(2, 7)] []; (case hdead => rfl); (case hinj => rfl); (case hV => (simp only [go_sem, *]) <;> (repeat' (first | refine And.intro ?_ ?_ | exact View.int (by first | rfl | omega | (simp; done) | (rw [wrap_i64] <;> (try simp only [Int.natCast_add]) <;> omega) | (simp [*]; done)) | exact .own rfl (by decide)))); (case hB => (simp only [go_sem, *]) <;> (repeat' (first | exact ⟨_, rfl, .rowE (by first | rfl | omega | (simp; done) | (rw [wrap_i64] <;> (try simp only [Int.natCast_add]) <;> omega) | (simp [*]; done))⟩))))
  · rintro ⟨i, st⟩ ⟨hi, hg, hs1, hs2⟩
    dsimp only at hi hg hs1 hs2
    have hcn := sps_len c
    clear hF hf hr
    by_cases hlt : i < c.length
    · have hlt' : (i : Int) < c.length := by omega
      have hat := sps_at c i hlt
      have hz : ((c.getD i zeroSp).cells).length = 2 := rfl
      rw [drop_consP c i hlt] at hg
      have hsr := hcr _ (get_mem hlt)
      have hsab := hcan.2 _ (get_mem hlt)
      obtain ⟨s, hs⟩ : ∃ s, c.getD i zeroSp = s := ⟨_, rfl⟩
      rw [hs] at hg hat hz hsr hsab
      clear hs
      unfold fitGo at hg
      have cd := dist_ok st s.a
      by_cases hb : s.b ≤ st
      · rw [if_pos hb] at hg
        have d1 : decide (s.b ≤ st) = true := decide_eq_true hb
        have hg' : Kept (fitGo len (c.drop (i + 1)) st = F) := hg
        clear hg hb hsr
        unfold gfS
        dsimp only
        repeat' (first
    | (apply Awp.sreg; (case hn => (simp only [List.length_cons, List.length_nil, Nat.reduceAdd] <;> rfl)))
    | (refine st_nil ?_)
    | (apply st_a; (case hc => rfl); (case he => (simp only [go_sem, *] <;> rfl)); (case hu => (simp only [updL_nil, updL_cons] <;> rfl)); (case hp => first | trivial | assumption | omega | (simp; done) | (simp; omega) | (simp [*]; done) | ((repeat' (refine And.intro ?_ ?_)) <;> first | trivial | assumption | omega | (simp; done) | (simp; omega) | (simp [*]; done))))
    | (apply Awp.reg; (case hn => (simp only [List.length_cons, List.length_nil, Nat.reduceAdd] <;> rfl)))
    | (refine Awp.skip ?_; try simp only [go_sem, *])
    | (refine Awp.exit ?_; try simp only [go_sem, *])
    | refine Awp.block ?_
    | (apply Awp.cond; (case hc => (simp only [go_sem, *] <;> rfl)); all_goals (intro hg; (try simp only [Bool.not_true, Bool.not_false, reduceCtorEq] at hg)))
    | refine Awp.seq ?_)
        refine ⟨(i + 1, st), ⟨by dsimp only; omega, hg'.out, hs1, hs2⟩, by dsimp only; omega, ?_⟩
        dsimp only
        (apply Ghost.mk [] []; (case hdead => rfl); (case hinj => rfl); (case hV => (simp only [go_sem, *]) <;> (repeat' (first | refine And.intro ?_ ?_ | exact View.int (by first | rfl | omega | (simp; done) | (rw [wrap_i64] <;> (try simp only [Int.natCast_add]) <;> omega) | (simp [*]; done)) | exact .own rfl (by decide)))); (case hB => (simp only [go_sem, *]) <;> (repeat' (first | exact ⟨_, rfl, .rowE (by first | rfl | omega | (simp; done) | (rw [wrap_i64] <;> (try simp only [Int.natCast_add]) <;> omega) | (simp [*]; done))⟩))))
      · rw [if_neg hb] at hg
        have d1 : decide (s.b ≤ st) = false := decide_eq_false hb
        have hsb : -9223372036854775808 ≤ s.b := by omega
        have hwl : IntKind.u64.wrap len = len := by rw [wrap_u64]; omega
        by_cases hc : st < s.a ∧ len ≤ s.a - st
        · rw [if_pos hc] at hg
          subst hg
          have d2 : decide (st < s.a) = true := decide_eq_true hc.1
          have hw : IntKind.u64.wrap (IntKind.u64.wrap s.a - IntKind.u64.wrap st) = s.a - st := by simp only [wrap_u64]; omega
          have d3 : decide (len ≤ s.a - st) = true := decide_eq_true hc.2
          clear hb hc hsr hcr hcan hsab
          cases hd : decide ((4611686018427387904 : Int) ≤ st)
          · rw [fitR_neg hd]
            unfold gfS
            dsimp only
            repeat' (first
    | (apply Awp.sreg; (case hn => (simp only [List.length_cons, List.length_nil, Nat.reduceAdd] <;> rfl)))
    | (refine st_nil ?_)
    | (apply st_a; (case hc => rfl); (case he => (simp only [go_sem, *] <;> rfl)); (case hu => (simp only [updL_nil, updL_cons] <;> rfl)); (case hp => first | trivial | assumption | omega | (simp; done) | (simp; omega) | (simp [*]; done) | ((repeat' (refine And.intro ?_ ?_)) <;> first | trivial | assumption | omega | (simp; done) | (simp; omega) | (simp [*]; done))))
    | (apply st_m; (case hc => rfl); (case hg => (simp only [go_sem, *] <;> rfl)); (case he => (intro hQz; (try simp only [wantB_t, wantB_f, Bool.and_eq_true, Bool.not_eq_true', Bool.not_true, Bool.not_false, and_true, true_and] at hQz); simp only [go_sem, *] <;> rfl)); (case hp => (intro hQz; (try simp only [wantB_t, wantB_f, Bool.and_eq_true, Bool.not_eq_true', Bool.or_eq_false_iff, decide_eq_true_eq, decide_eq_false_iff_not, beq_iff_eq, beq_eq_false_iff_ne, bne_iff_ne, bne_eq_false_iff_eq, Int.not_lt, Int.not_le, Int.ofNat_lt, Int.ofNat_le] at hQz); first | trivial | assumption | omega | (simp; done) | (simp; omega) | (simp [*]; done) | ((repeat' (refine And.intro ?_ ?_)) <;> first | trivial | assumption | omega | (simp; done) | (simp; omega) | (simp [*]; done)))))
    | (apply st_mc; (case hop => rfl); (case hg => (simp only [go_sem, *] <;> rfl)); (case hc => (intro hQz; (try simp only [wantB_t, wantB_f, Bool.and_eq_true, Bool.not_eq_true', Bool.not_true, Bool.not_false, and_true, true_and] at hQz); simp only [go_sem, *] <;> rfl)); (case hl => (intro hQz; (try simp only [wantB_t, wantB_f, Bool.and_eq_true, Bool.not_eq_true', Bool.not_true, Bool.not_false, and_true, true_and] at hQz); simp only [go_sem, *] <;> rfl)); (case hn => (intro hQz; (try simp only [wantB_t, wantB_f, Bool.and_eq_true, Bool.not_eq_true', Bool.not_true, Bool.not_false, and_true, true_and] at hQz); simp only [go_sem, *] <;> rfl)); (case hp => intro hQz; first | exact cd | (have hXz := cd; simp only [go_sem, *] at hXz; exact hXz)))
    | (refine Awp.ret ?_; try simp only [go_sem, *])
    | (refine Awp.skip ?_; try simp only [go_sem, *])
    | (refine Awp.exit ?_; try simp only [go_sem, *])
    | refine Awp.block ?_
    | (apply Awp.cond; (case hc => (simp only [go_sem, *] <;> rfl)); all_goals (intro hg; (try simp only [Bool.not_true, Bool.not_false, reduceCtorEq] at hg)))
    | refine Awp.seq ?_)
            all_goals repeat' (first | exact Lower.bool (by first | rfl | (simp only [true_and, Bool.true_and, Bool.false_and, Bool.and_true, Bool.and_false, Bool.true_or, Bool.false_or, reduceIte, Bool.false_eq_true, *]; done) | (simp only [true_and, reduceIte, Bool.false_eq_true, *] <;> rfl) | (simp [true_and]; done) | (simp_all [true_and]; done) | omega) | exact Lower.int (by first | rfl | (simp only [true_and, Bool.true_and, Bool.false_and, Bool.and_true, Bool.and_false, Bool.true_or, Bool.false_or, reduceIte, Bool.false_eq_true, *]; done) | (simp only [true_and, reduceIte, Bool.false_eq_true, *] <;> rfl) | (simp [true_and]; done) | (simp_all [true_and]; done) | omega) | refine Lower.tupF ?_ | refine All2.cons ?_ ?_ | exact All2.nil)
          · rw [fitR_pos hd]
            unfold gfS
            dsimp only
            repeat' (first
    | (apply Awp.sreg; (case hn => (simp only [List.length_cons, List.length_nil, Nat.reduceAdd] <;> rfl)))
    | (refine st_nil ?_)
    | (apply st_a; (case hc => rfl); (case he => (simp only [go_sem, *] <;> rfl)); (case hu => (simp only [updL_nil, updL_cons] <;> rfl)); (case hp => first | trivial | assumption | omega | (simp; done) | (simp; omega) | (simp [*]; done) | ((repeat' (refine And.intro ?_ ?_)) <;> first | trivial | assumption | omega | (simp; done) | (simp; omega) | (simp [*]; done))))
    | (apply st_m; (case hc => rfl); (case hg => (simp only [go_sem, *] <;> rfl)); (case he => (intro hQz; (try simp only [wantB_t, wantB_f, Bool.and_eq_true, Bool.not_eq_true', Bool.not_true, Bool.not_false, and_true, true_and] at hQz); simp only [go_sem, *] <;> rfl)); (case hp => (intro hQz; (try simp only [wantB_t, wantB_f, Bool.and_eq_true, Bool.not_eq_true', Bool.or_eq_false_iff, decide_eq_true_eq, decide_eq_false_iff_not, beq_iff_eq, beq_eq_false_iff_ne, bne_iff_ne, bne_eq_false_iff_eq, Int.not_lt, Int.not_le, Int.ofNat_lt, Int.ofNat_le] at hQz); first | trivial | assumption | omega | (simp; done) | (simp; omega) | (simp [*]; done) | ((repeat' (refine And.intro ?_ ?_)) <;> first | trivial | assumption | omega | (simp; done) | (simp; omega) | (simp [*]; done)))))
    | (apply st_mc; (case hop => rfl); (case hg => (simp only [go_sem, *] <;> rfl)); (case hc => (intro hQz; (try simp only [wantB_t, wantB_f, Bool.and_eq_true, Bool.not_eq_true', Bool.not_true, Bool.not_false, and_true, true_and] at hQz); simp only [go_sem, *] <;> rfl)); (case hl => (intro hQz; (try simp only [wantB_t, wantB_f, Bool.and_eq_true, Bool.not_eq_true', Bool.not_true, Bool.not_false, and_true, true_and] at hQz); simp only [go_sem, *] <;> rfl)); (case hn => (intro hQz; (try simp only [wantB_t, wantB_f, Bool.and_eq_true, Bool.not_eq_true', Bool.not_true, Bool.not_false, and_true, true_and] at hQz); simp only [go_sem, *] <;> rfl)); (case hp => intro hQz; first | exact cd | (have hXz := cd; simp only [go_sem, *] at hXz; exact hXz)))
    | (refine Awp.ret ?_; try simp only [go_sem, *])
    | (refine Awp.skip ?_; try simp only [go_sem, *])
    | (refine Awp.exit ?_; try simp only [go_sem, *])
    | refine Awp.block ?_
    | (apply Awp.cond; (case hc => (simp only [go_sem, *] <;> rfl)); all_goals (intro hg; (try simp only [Bool.not_true, Bool.not_false, reduceCtorEq] at hg)))
    | refine Awp.seq ?_)
            all_goals repeat' (first | exact Lower.bool (by first | rfl | (simp only [true_and, Bool.true_and, Bool.false_and, Bool.and_true, Bool.and_false, Bool.true_or, Bool.false_or, reduceIte, Bool.false_eq_true, *]; done) | (simp only [true_and, reduceIte, Bool.false_eq_true, *] <;> rfl) | (simp [true_and]; done) | (simp_all [true_and]; done) | omega) | exact Lower.int (by first | rfl | (simp only [true_and, Bool.true_and, Bool.false_and, Bool.and_true, Bool.and_false, Bool.true_or, Bool.false_or, reduceIte, Bool.false_eq_true, *]; done) | (simp only [true_and, reduceIte, Bool.false_eq_true, *] <;> rfl) | (simp [true_and]; done) | (simp_all [true_and]; done) | omega) | refine Lower.tupF ?_ | refine All2.cons ?_ ?_ | exact All2.nil)
        · rw [if_neg hc] at hg
          have hg' : Kept (fitGo len (c.drop (i + 1)) s.b = F) := hg
          have hsr2 := hsr.2
          by_cases hsa : st < s.a
          · have d2 : decide (st < s.a) = true := decide_eq_true hsa
            have hw : IntKind.u64.wrap (IntKind.u64.wrap s.a - IntKind.u64.wrap st) = s.a - st := by simp only [wrap_u64]; omega
            have d3 : decide (len ≤ s.a - st) = false := decide_eq_false fun h => hc ⟨hsa, h⟩
            clear hb hc hsr hg hsa
            unfold gfS
            dsimp only
            repeat' (first
    | (apply Awp.sreg; (case hn => (simp only [List.length_cons, List.length_nil, Nat.reduceAdd] <;> rfl)))
    | (refine st_nil ?_)
    | (apply st_a; (case hc => rfl); (case he => (simp only [go_sem, *] <;> rfl)); (case hu => (simp only [updL_nil, updL_cons] <;> rfl)); (case hp => first | trivial | assumption | omega | (simp; done) | (simp; omega) | (simp [*]; done) | ((repeat' (refine And.intro ?_ ?_)) <;> first | trivial | assumption | omega | (simp; done) | (simp; omega) | (simp [*]; done))))
    | (apply st_m; (case hc => rfl); (case hg => (simp only [go_sem, *] <;> rfl)); (case he => (intro hQz; (try simp only [wantB_t, wantB_f, Bool.and_eq_true, Bool.not_eq_true', Bool.not_true, Bool.not_false, and_true, true_and] at hQz); simp only [go_sem, *] <;> rfl)); (case hp => (intro hQz; (try simp only [wantB_t, wantB_f, Bool.and_eq_true, Bool.not_eq_true', Bool.or_eq_false_iff, decide_eq_true_eq, decide_eq_false_iff_not, beq_iff_eq, beq_eq_false_iff_ne, bne_iff_ne, bne_eq_false_iff_eq, Int.not_lt, Int.not_le, Int.ofNat_lt, Int.ofNat_le] at hQz); first | trivial | assumption | omega | (simp; done) | (simp; omega) | (simp [*]; done) | ((repeat' (refine And.intro ?_ ?_)) <;> first | trivial | assumption | omega | (simp; done) | (simp; omega) | (simp [*]; done)))))
    | (apply st_mc; (case hop => rfl); (case hg => (simp only [go_sem, *] <;> rfl)); (case hc => (intro hQz; (try simp only [wantB_t, wantB_f, Bool.and_eq_true, Bool.not_eq_true', Bool.not_true, Bool.not_false, and_true, true_and] at hQz); simp only [go_sem, *] <;> rfl)); (case hl => (intro hQz; (try simp only [wantB_t, wantB_f, Bool.and_eq_true, Bool.not_eq_true', Bool.not_true, Bool.not_false, and_true, true_and] at hQz); simp only [go_sem, *] <;> rfl)); (case hn => (intro hQz; (try simp only [wantB_t, wantB_f, Bool.and_eq_true, Bool.not_eq_true', Bool.not_true, Bool.not_false, and_true, true_and] at hQz); simp only [go_sem, *] <;> rfl)); (case hp => intro hQz; first | exact cd | (have hXz := cd; simp only [go_sem, *] at hXz; exact hXz)))
    | (apply Awp.reg; (case hn => (simp only [List.length_cons, List.length_nil, Nat.reduceAdd] <;> rfl)))
    | (refine Awp.skip ?_; try simp only [go_sem, *])
    | refine Awp.block ?_
    | (apply Awp.cond; (case hc => (simp only [go_sem, *] <;> rfl)); all_goals (intro hg; (try simp only [Bool.not_true, Bool.not_false, reduceCtorEq] at hg)))
    | refine Awp.seq ?_)
            refine ⟨(i + 1, s.b), ⟨by dsimp only; omega, hg'.out, hsb, hsr2⟩, by dsimp only; omega, ?_⟩
            dsimp only
            (apply Ghost.mk [] []; (case hdead => rfl); (case hinj => rfl); (case hV => (simp only [go_sem, *]) <;> (repeat' (first | refine And.intro ?_ ?_ | exact View.int (by first | rfl | omega | (simp; done) | (rw [wrap_i64] <;> (try simp only [Int.natCast_add]) <;> omega) | (simp [*]; done)) | exact .own rfl (by decide)))); (case hB => (simp only [go_sem, *]) <;> (repeat' (first | exact ⟨_, rfl, .rowE (by first | rfl | omega | (simp; done) | (rw [wrap_i64] <;> (try simp only [Int.natCast_add]) <;> omega) | (simp [*]; done))⟩))))
          · have d2 : decide (st < s.a) = false := decide_eq_false hsa
            clear hb hc hsr hg hsa
            unfold gfS
            dsimp only
            repeat' (first
    | (apply Awp.sreg; (case hn => (simp only [List.length_cons, List.length_nil, Nat.reduceAdd] <;> rfl)))
    | (refine st_nil ?_)
    | (apply st_a; (case hc => rfl); (case he => (simp only [go_sem, *] <;> rfl)); (case hu => (simp only [updL_nil, updL_cons] <;> rfl)); (case hp => first | trivial | assumption | omega | (simp; done) | (simp; omega) | (simp [*]; done) | ((repeat' (refine And.intro ?_ ?_)) <;> first | trivial | assumption | omega | (simp; done) | (simp; omega) | (simp [*]; done))))
    | (apply st_m; (case hc => rfl); (case hg => (simp only [go_sem, *] <;> rfl)); (case he => (intro hQz; (try simp only [wantB_t, wantB_f, Bool.and_eq_true, Bool.not_eq_true', Bool.not_true, Bool.not_false, and_true, true_and] at hQz); simp only [go_sem, *] <;> rfl)); (case hp => (intro hQz; (try simp only [wantB_t, wantB_f, Bool.and_eq_true, Bool.not_eq_true', Bool.or_eq_false_iff, decide_eq_true_eq, decide_eq_false_iff_not, beq_iff_eq, beq_eq_false_iff_ne, bne_iff_ne, bne_eq_false_iff_eq, Int.not_lt, Int.not_le, Int.ofNat_lt, Int.ofNat_le] at hQz); first | trivial | assumption | omega | (simp; done) | (simp; omega) | (simp [*]; done) | ((repeat' (refine And.intro ?_ ?_)) <;> first | trivial | assumption | omega | (simp; done) | (simp; omega) | (simp [*]; done)))))
    | (apply st_g; (case hv => (simp only [go_sem, *] <;> rfl)); all_goals (intro hg; (try simp only [Bool.not_true, Bool.not_false, reduceCtorEq] at hg)))
    | (apply Awp.reg; (case hn => (simp only [List.length_cons, List.length_nil, Nat.reduceAdd] <;> rfl)))
    | (refine Awp.skip ?_; try simp only [go_sem, *])
    | refine Awp.block ?_
    | (apply Awp.cond; (case hc => (simp only [go_sem, *] <;> rfl)); all_goals (intro hg; (try simp only [Bool.not_true, Bool.not_false, reduceCtorEq] at hg)))
    | refine Awp.seq ?_)
            refine ⟨(i + 1, s.b), ⟨by dsimp only; omega, hg'.out, hsb, hsr2⟩, by dsimp only; omega, ?_⟩
            dsimp only
            (apply Ghost.mk [] []; (case hdead => rfl); (case hinj => rfl); (case hV => (simp only [go_sem, *]) <;> (repeat' (first | refine And.intro ?_ ?_ | exact View.int (by first | rfl | omega | (simp; done) | (rw [wrap_i64] <;> (try simp only [Int.natCast_add]) <;> omega) | (simp [*]; done)) | exact .own rfl (by decide)))); (case hB => (simp only [go_sem, *]) <;> (repeat' (first | exact ⟨_, rfl, .rowE (by first | rfl | omega | (simp; done) | (rw [wrap_i64] <;> (try simp only [Int.natCast_add]) <;> omega) | (simp [*]; done))⟩))))
    · have hlt' : ¬ (i : Int) < c.length := by omega
      rw [List.drop_eq_nil_of_le (by omega)] at hg
      unfold fitGo at hg
      subst hg
      clear hcr
      cases hd : decide ((4611686018427387904 : Int) ≤ st)
      · rw [fitR_neg hd]
        unfold gfS
        dsimp only
        repeat' (first
    | (apply Awp.sreg; (case hn => (simp only [List.length_cons, List.length_nil, Nat.reduceAdd] <;> rfl)))
    | (refine st_nil ?_)
    | (apply st_a; (case hc => rfl); (case he => (simp only [go_sem, *] <;> rfl)); (case hu => (simp only [updL_nil, updL_cons] <;> rfl)); (case hp => first | trivial | assumption | omega | (simp; done) | (simp; omega) | (simp [*]; done) | ((repeat' (refine And.intro ?_ ?_)) <;> first | trivial | assumption | omega | (simp; done) | (simp; omega) | (simp [*]; done))))
    | (refine Awp.ret ?_; try simp only [go_sem, *])
    | (refine Awp.skip ?_; try simp only [go_sem, *])
    | (refine Awp.exit ?_; try simp only [go_sem, *])
    | (apply Awp.cond; (case hc => (simp only [go_sem, *] <;> rfl)); all_goals (intro hg; (try simp only [Bool.not_true, Bool.not_false, reduceCtorEq] at hg)))
    | refine Awp.seq ?_)
        all_goals repeat' (first | exact Lower.bool (by first | rfl | (simp only [true_and, Bool.true_and, Bool.false_and, Bool.and_true, Bool.and_false, Bool.true_or, Bool.false_or, reduceIte, Bool.false_eq_true, *]; done) | (simp only [true_and, reduceIte, Bool.false_eq_true, *] <;> rfl) | (simp [true_and]; done) | (simp_all [true_and]; done) | omega) | exact Lower.int (by first | rfl | (simp only [true_and, Bool.true_and, Bool.false_and, Bool.and_true, Bool.and_false, Bool.true_or, Bool.false_or, reduceIte, Bool.false_eq_true, *]; done) | (simp only [true_and, reduceIte, Bool.false_eq_true, *] <;> rfl) | (simp [true_and]; done) | (simp_all [true_and]; done) | omega) | refine Lower.tupF ?_ | refine All2.cons ?_ ?_ | exact All2.nil)
      · rw [fitR_pos hd]
        unfold gfS
        dsimp only
        repeat' (first
    | (apply Awp.sreg; (case hn => (simp only [List.length_cons, List.length_nil, Nat.reduceAdd] <;> rfl)))
    | (refine st_nil ?_)
    | (apply st_a; (case hc => rfl); (case he => (simp only [go_sem, *] <;> rfl)); (case hu => (simp only [updL_nil, updL_cons] <;> rfl)); (case hp => first | trivial | assumption | omega | (simp; done) | (simp; omega) | (simp [*]; done) | ((repeat' (refine And.intro ?_ ?_)) <;> first | trivial | assumption | omega | (simp; done) | (simp; omega) | (simp [*]; done))))
    | (refine Awp.ret ?_; try simp only [go_sem, *])
    | (refine Awp.exit ?_; try simp only [go_sem, *])
    | (apply Awp.cond; (case hc => (simp only [go_sem, *] <;> rfl)); all_goals (intro hg; (try simp only [Bool.not_true, Bool.not_false, reduceCtorEq] at hg)))
    | refine Awp.seq ?_)
        all_goals repeat' (first | exact Lower.bool (by first | rfl | (simp only [true_and, Bool.true_and, Bool.false_and, Bool.and_true, Bool.and_false, Bool.true_or, Bool.false_or, reduceIte, Bool.false_eq_true, *]; done) | (simp only [true_and, reduceIte, Bool.false_eq_true, *] <;> rfl) | (simp [true_and]; done) | (simp_all [true_and]; done) | omega) | exact Lower.int (by first | rfl | (simp only [true_and, Bool.true_and, Bool.false_and, Bool.and_true, Bool.and_false, Bool.true_or, Bool.false_or, reduceIte, Bool.false_eq_true, *]; done) | (simp only [true_and, reduceIte, Bool.false_eq_true, *] <;> rfl) | (simp [true_and]; done) | (simp_all [true_and]; done) | omega) | refine Lower.tupF ?_ | refine All2.cons ?_ ?_ | exact All2.nil)
def rfS (c : List Sp) (len : Int) (q : Nat × Int) : AState := mkS [(2, .v (.int .i64 len)), (8, .own 2), (9, .v (.int .i64 q.2)), (10, .v (.int .i64 q.1))] [(2, .row (sps c) 2 29)]
theorem rfit_ok (l : List Sp) (fr len : Int) (hr : InR l) (hl : l.length < 100000) (hf : -9223372036854775808 ≤ fr ∧ fr ≤ 9223372036854775807) (hn : len ≤ 9223372036854775807) :
    Pure Try.prog 23 [.sl (sps l), .v (.int .i64 fr), .v (.int .i64 len)] (.tup [.v (.int .i64 (fitE l fr len).1), .v (.bool (fitE l fr len).2)]) := by
  have c0 := rnormal_ok l hl
  have hcl := canon_len l
  have hcr := canon_inR hr
  have hcan := (canon_is l).1
  unfold fitE
  by_cases h1 : len < 1
  · have h1' : decide (len < 1) = true := decide_eq_true h1
    rw [if_pos h1]
    clear h1
    refine fn_pure Try.F23 (Nat.le_of_ble_eq_true rfl) ?_; unfold Try.ac23
    repeat' (first
    | (apply Awp.sreg; (case hn => (simp only [List.length_cons, List.length_nil, Nat.reduceAdd] <;> rfl)))
    | (refine st_nil ?_)
    | (apply st_a; (case hc => rfl); (case he => (simp only [go_sem, *] <;> rfl)); (case hu => (simp only [updL_nil, updL_cons] <;> rfl)); (case hp => first | trivial | assumption | omega | (simp; done) | (simp; omega) | (simp [*]; done) | ((repeat' (refine And.intro ?_ ?_)) <;> first | trivial | assumption | omega | (simp; done) | (simp; omega) | (simp [*]; done))))
    | (refine Awp.ret ?_; try simp only [go_sem, *])
    | (apply Awp.cond; (case hc => (simp only [go_sem, *] <;> rfl)); all_goals (intro hg; (try simp only [Bool.not_true, Bool.not_false, reduceCtorEq] at hg)))
    | refine Awp.seq ?_)
    all_goals repeat' (first | exact Lower.bool (by first | rfl | (simp only [true_and, Bool.true_and, Bool.false_and, Bool.and_true, Bool.and_false, Bool.true_or, Bool.false_or, reduceIte, Bool.false_eq_true, *]; done) | (simp only [true_and, reduceIte, Bool.false_eq_true, *] <;> rfl) | (simp [true_and]; done) | (simp_all [true_and]; done) | omega) | exact Lower.int (by first | rfl | (simp only [true_and, Bool.true_and, Bool.false_and, Bool.and_true, Bool.and_false, Bool.true_or, Bool.false_or, reduceIte, Bool.false_eq_true, *]; done) | (simp only [true_and, reduceIte, Bool.false_eq_true, *] <;> rfl) | (simp [true_and]; done) | (simp_all [true_and]; done) | omega) | refine Lower.tupF ?_ | refine All2.cons ?_ ?_ | exact All2.nil)
  have h1' : decide (len < 1) = false := decide_eq_false h1
  rw [if_neg h1]
  obtain ⟨F, hF⟩ : ∃ F, fitGo len (canon l) fr = F := ⟨_, rfl⟩
  rw [hF]
  rw [← fit_same (canon_is l).1] at hF
  have hlp : 1 ≤ len := by omega
  clear h1
  generalize canon l = c at *
  refine fn_pure Try.F23 (Nat.le_of_ble_eq_true rfl) ?_; unfold Try.ac23
  repeat' (first
    | (apply Awp.sreg; (case hn => (simp only [List.length_cons, List.length_nil, Nat.reduceAdd] <;> rfl)))
    | (refine st_nil ?_)
    | (apply st_a; (case hc => rfl); (case he => (simp only [go_sem, *] <;> rfl)); (case hu => (simp only [updL_nil, updL_cons] <;> rfl)); (case hp => first | trivial | assumption | omega | (simp; done) | (simp; omega) | (simp [*]; done) | ((repeat' (refine And.intro ?_ ?_)) <;> first | trivial | assumption | omega | (simp; done) | (simp; omega) | (simp [*]; done))))
    | (apply st_co; (case hc => (simp only [go_sem, *] <;> rfl)); (case hl => (simp only [go_sem, *] <;> rfl)); (case hn => (simp only [go_sem, *] <;> rfl)); (case hp => first | exact c0 | (have hXz := c0; simp only [go_sem, *] at hXz; exact hXz)))
    | (refine Awp.skip ?_; try simp only [go_sem, *])
    | refine Awp.block ?_
    | (apply Awp.cond; (case hc => (simp only [go_sem, *] <;> rfl)); all_goals (intro hg; (try simp only [Bool.not_true, Bool.not_false, reduceCtorEq] at hg)))
    | refine Awp.seq ?_)
  clear c0
  refine Awp.loop (fun q : Nat × Int => q.1 ≤ c.length ∧ (c.drop q.1).foldl (fitStep len) q.2 = F ∧ -9223372036854775808 ≤ q.2 ∧ q.2 ≤ 9223372036854775807) 100 (rfS c len) (fun q => c.length - q.1) (0, fr) ⟨by dsimp only; omega, hF, hf.1, hf.2⟩ ?_ ?_
  · unfold rfS
    dsimp only
    (apply Ghost.mk [(2, 5)] []; (case hdead => rfl); (case hinj => rfl); (case hV => (simp only [go_sem, *]) <;> (repeat' (first | refine And.intro ?_ ?_ | exact View.int (by first | rfl | omega | (simp; done) | (rw [wrap_i64] <;> (try simp only [Int.natCast_add]) <;> omega) | (simp [*]; done)) | exact .own rfl (by decide)))); (case hB => (simp only [go_sem, *]) <;> (repeat' (first | exact ⟨_, rfl, .rowE (by first | rfl | omega | (simp; done) | (rw [wrap_i64] <;> (try simp only [Int.natCast_add]) <;> omega) | (simp [*]; done))⟩))))
  · rintro ⟨i, st⟩ ⟨hi, hg, hs1, hs2⟩
    dsimp only at hi hg hs1 hs2
    have hcn := sps_len c
    clear hF hf hr
    by_cases hlt : i < c.length
    · have hlt' : (i : Int) < c.length := by omega
      have hat := sps_at c i hlt
      have hz : ((c.getD i zeroSp).cells).length = 2 := rfl
      rw [drop_consP c i hlt, List.foldl_cons] at hg
      have hsr := hcr _ (get_mem hlt)
      have hsab := hcan.2 _ (get_mem hlt)
      obtain ⟨s, hs⟩ : ∃ s, c.getD i zeroSp = s := ⟨_, rfl⟩
      rw [hs] at hg hat hz hsr hsab
      clear hs
      unfold fitStep at hg
      have hwl : IntKind.u64.wrap len = len := by rw [wrap_u64]; omega
      by_cases hb : s.b ≤ st
      · rw [if_pos (.inl hb)] at hg
        have d1 : decide (s.b ≤ st) = true := decide_eq_true hb
        have hg' : Kept ((c.drop (i + 1)).foldl (fitStep len) st = F) := hg
        clear hg hb hsr
        unfold rfS
        dsimp only
        repeat' (first
    | (apply Awp.sreg; (case hn => (simp only [List.length_cons, List.length_nil, Nat.reduceAdd] <;> rfl)))
    | (refine st_nil ?_)
    | (apply st_a; (case hc => rfl); (case he => (simp only [go_sem, *] <;> rfl)); (case hu => (simp only [updL_nil, updL_cons] <;> rfl)); (case hp => first | trivial | assumption | omega | (simp; done) | (simp; omega) | (simp [*]; done) | ((repeat' (refine And.intro ?_ ?_)) <;> first | trivial | assumption | omega | (simp; done) | (simp; omega) | (simp [*]; done))))
    | (apply st_m; (case hc => rfl); (case hg => (simp only [go_sem, *] <;> rfl)); (case he => (intro hQz; (try simp only [wantB_t, wantB_f, Bool.and_eq_true, Bool.not_eq_true', Bool.not_true, Bool.not_false, and_true, true_and] at hQz); simp only [go_sem, *] <;> rfl)); (case hp => (intro hQz; (try simp only [wantB_t, wantB_f, Bool.and_eq_true, Bool.not_eq_true', Bool.or_eq_false_iff, decide_eq_true_eq, decide_eq_false_iff_not, beq_iff_eq, beq_eq_false_iff_ne, bne_iff_ne, bne_eq_false_iff_eq, Int.not_lt, Int.not_le, Int.ofNat_lt, Int.ofNat_le] at hQz); first | trivial | assumption | omega | (simp; done) | (simp; omega) | (simp [*]; done) | ((repeat' (refine And.intro ?_ ?_)) <;> first | trivial | assumption | omega | (simp; done) | (simp; omega) | (simp [*]; done)))))
    | (apply Awp.reg; (case hn => (simp only [List.length_cons, List.length_nil, Nat.reduceAdd] <;> rfl)))
    | (refine Awp.skip ?_; try simp only [go_sem, *])
    | refine Awp.block ?_
    | (apply Awp.cond; (case hc => (simp only [go_sem, *] <;> rfl)); all_goals (intro hg; (try simp only [Bool.not_true, Bool.not_false, reduceCtorEq] at hg)))
    | refine Awp.seq ?_)
        refine ⟨(i + 1, st), ⟨by dsimp only; omega, hg'.out, hs1, hs2⟩, by dsimp only; omega, ?_⟩
        dsimp only
        (apply Ghost.mk [] []; (case hdead => rfl); (case hinj => rfl); (case hV => (simp only [go_sem, *]) <;> (repeat' (first | refine And.intro ?_ ?_ | exact View.int (by first | rfl | omega | (simp; done) | (rw [wrap_i64] <;> (try simp only [Int.natCast_add]) <;> omega) | (simp [*]; done)) | exact .own rfl (by decide)))); (case hB => (simp only [go_sem, *]) <;> (repeat' (first | exact ⟨_, rfl, .rowE (by first | rfl | omega | (simp; done) | (rw [wrap_i64] <;> (try simp only [Int.natCast_add]) <;> omega) | (simp [*]; done))⟩))))
      · have d1 : decide (s.b ≤ st) = false := decide_eq_false hb
        have hsb : -9223372036854775808 ≤ s.b := by omega
        have hsr2 := hsr.2
        by_cases hsa : st < s.a
        · have d2 : decide (st < s.a) = true := decide_eq_true hsa
          have hw : IntKind.u64.wrap (IntKind.u64.wrap s.a - IntKind.u64.wrap st) = s.a - st := by simp only [wrap_u64]; omega
          by_cases hc : len ≤ s.a - st
          · rw [if_pos (.inr ⟨hsa, hc⟩)] at hg
            have d3 : decide (len ≤ s.a - st) = true := decide_eq_true hc
            have hg' : Kept ((c.drop (i + 1)).foldl (fitStep len) st = F) := hg
            clear hb hc hsr hg hsa
            unfold rfS
            dsimp only
            repeat' (first
    | (apply Awp.sreg; (case hn => (simp only [List.length_cons, List.length_nil, Nat.reduceAdd] <;> rfl)))
    | (refine st_nil ?_)
    | (apply st_a; (case hc => rfl); (case he => (simp only [go_sem, *] <;> rfl)); (case hu => (simp only [updL_nil, updL_cons] <;> rfl)); (case hp => first | trivial | assumption | omega | (simp; done) | (simp; omega) | (simp [*]; done) | ((repeat' (refine And.intro ?_ ?_)) <;> first | trivial | assumption | omega | (simp; done) | (simp; omega) | (simp [*]; done))))
    | (apply st_m; (case hc => rfl); (case hg => (simp only [go_sem, *] <;> rfl)); (case he => (intro hQz; (try simp only [wantB_t, wantB_f, Bool.and_eq_true, Bool.not_eq_true', Bool.not_true, Bool.not_false, and_true, true_and] at hQz); simp only [go_sem, *] <;> rfl)); (case hp => (intro hQz; (try simp only [wantB_t, wantB_f, Bool.and_eq_true, Bool.not_eq_true', Bool.or_eq_false_iff, decide_eq_true_eq, decide_eq_false_iff_not, beq_iff_eq, beq_eq_false_iff_ne, bne_iff_ne, bne_eq_false_iff_eq, Int.not_lt, Int.not_le, Int.ofNat_lt, Int.ofNat_le] at hQz); first | trivial | assumption | omega | (simp; done) | (simp; omega) | (simp [*]; done) | ((repeat' (refine And.intro ?_ ?_)) <;> first | trivial | assumption | omega | (simp; done) | (simp; omega) | (simp [*]; done)))))
    | (apply Awp.reg; (case hn => (simp only [List.length_cons, List.length_nil, Nat.reduceAdd] <;> rfl)))
    | (refine Awp.skip ?_; try simp only [go_sem, *])
    | refine Awp.block ?_
    | (apply Awp.cond; (case hc => (simp only [go_sem, *] <;> rfl)); all_goals (intro hg; (try simp only [Bool.not_true, Bool.not_false, reduceCtorEq] at hg)))
    | refine Awp.seq ?_)
            refine ⟨(i + 1, st), ⟨by dsimp only; omega, hg'.out, hs1, hs2⟩, by dsimp only; omega, ?_⟩
            dsimp only
            (apply Ghost.mk [] []; (case hdead => rfl); (case hinj => rfl); (case hV => (simp only [go_sem, *]) <;> (repeat' (first | refine And.intro ?_ ?_ | exact View.int (by first | rfl | omega | (simp; done) | (rw [wrap_i64] <;> (try simp only [Int.natCast_add]) <;> omega) | (simp [*]; done)) | exact .own rfl (by decide)))); (case hB => (simp only [go_sem, *]) <;> (repeat' (first | exact ⟨_, rfl, .rowE (by first | rfl | omega | (simp; done) | (rw [wrap_i64] <;> (try simp only [Int.natCast_add]) <;> omega) | (simp [*]; done))⟩))))
          · rw [if_neg (fun h => h.elim hb fun k => hc k.2)] at hg
            have d3 : decide (len ≤ s.a - st) = false := decide_eq_false hc
            have hg' : Kept ((c.drop (i + 1)).foldl (fitStep len) s.b = F) := hg
            clear hb hc hsr hg hsa
            unfold rfS
            dsimp only
            repeat' (first
    | (apply Awp.sreg; (case hn => (simp only [List.length_cons, List.length_nil, Nat.reduceAdd] <;> rfl)))
    | (refine st_nil ?_)
    | (apply st_a; (case hc => rfl); (case he => (simp only [go_sem, *] <;> rfl)); (case hu => (simp only [updL_nil, updL_cons] <;> rfl)); (case hp => first | trivial | assumption | omega | (simp; done) | (simp; omega) | (simp [*]; done) | ((repeat' (refine And.intro ?_ ?_)) <;> first | trivial | assumption | omega | (simp; done) | (simp; omega) | (simp [*]; done))))
    | (apply st_m; (case hc => rfl); (case hg => (simp only [go_sem, *] <;> rfl)); (case he => (intro hQz; (try simp only [wantB_t, wantB_f, Bool.and_eq_true, Bool.not_eq_true', Bool.not_true, Bool.not_false, and_true, true_and] at hQz); simp only [go_sem, *] <;> rfl)); (case hp => (intro hQz; (try simp only [wantB_t, wantB_f, Bool.and_eq_true, Bool.not_eq_true', Bool.or_eq_false_iff, decide_eq_true_eq, decide_eq_false_iff_not, beq_iff_eq, beq_eq_false_iff_ne, bne_iff_ne, bne_eq_false_iff_eq, Int.not_lt, Int.not_le, Int.ofNat_lt, Int.ofNat_le] at hQz); first | trivial | assumption | omega | (simp; done) | (simp; omega) | (simp [*]; done) | ((repeat' (refine And.intro ?_ ?_)) <;> first | trivial | assumption | omega | (simp; done) | (simp; omega) | (simp [*]; done)))))
    | (apply Awp.reg; (case hn => (simp only [List.length_cons, List.length_nil, Nat.reduceAdd] <;> rfl)))
    | (refine Awp.skip ?_; try simp only [go_sem, *])
    | refine Awp.block ?_
    | (apply Awp.cond; (case hc => (simp only [go_sem, *] <;> rfl)); all_goals (intro hg; (try simp only [Bool.not_true, Bool.not_false, reduceCtorEq] at hg)))
    | refine Awp.seq ?_)
            refine ⟨(i + 1, s.b), ⟨by dsimp only; omega, hg'.out, hsb, hsr2⟩, by dsimp only; omega, ?_⟩
            dsimp only
            (apply Ghost.mk [] []; (case hdead => rfl); (case hinj => rfl); (case hV => (simp only [go_sem, *]) <;> (repeat' (first | refine And.intro ?_ ?_ | exact View.int (by first | rfl | omega | (simp; done) | (rw [wrap_i64] <;> (try simp only [Int.natCast_add]) <;> omega) | (simp [*]; done)) | exact .own rfl (by decide)))); (case hB => (simp only [go_sem, *]) <;> (repeat' (first | exact ⟨_, rfl, .rowE (by first | rfl | omega | (simp; done) | (rw [wrap_i64] <;> (try simp only [Int.natCast_add]) <;> omega) | (simp [*]; done))⟩))))
        · rw [if_neg (fun h => h.elim hb fun k => hsa k.1)] at hg
          have d2 : decide (st < s.a) = false := decide_eq_false hsa
          have hg' : Kept ((c.drop (i + 1)).foldl (fitStep len) s.b = F) := hg
          clear hb hsr hg hsa
          unfold rfS
          dsimp only
          repeat' (first
    | (apply Awp.sreg; (case hn => (simp only [List.length_cons, List.length_nil, Nat.reduceAdd] <;> rfl)))
    | (refine st_nil ?_)
    | (apply st_a; (case hc => rfl); (case he => (simp only [go_sem, *] <;> rfl)); (case hu => (simp only [updL_nil, updL_cons] <;> rfl)); (case hp => first | trivial | assumption | omega | (simp; done) | (simp; omega) | (simp [*]; done) | ((repeat' (refine And.intro ?_ ?_)) <;> first | trivial | assumption | omega | (simp; done) | (simp; omega) | (simp [*]; done))))
    | (apply st_m; (case hc => rfl); (case hg => (simp only [go_sem, *] <;> rfl)); (case he => (intro hQz; (try simp only [wantB_t, wantB_f, Bool.and_eq_true, Bool.not_eq_true', Bool.not_true, Bool.not_false, and_true, true_and] at hQz); simp only [go_sem, *] <;> rfl)); (case hp => (intro hQz; (try simp only [wantB_t, wantB_f, Bool.and_eq_true, Bool.not_eq_true', Bool.or_eq_false_iff, decide_eq_true_eq, decide_eq_false_iff_not, beq_iff_eq, beq_eq_false_iff_ne, bne_iff_ne, bne_eq_false_iff_eq, Int.not_lt, Int.not_le, Int.ofNat_lt, Int.ofNat_le] at hQz); first | trivial | assumption | omega | (simp; done) | (simp; omega) | (simp [*]; done) | ((repeat' (refine And.intro ?_ ?_)) <;> first | trivial | assumption | omega | (simp; done) | (simp; omega) | (simp [*]; done)))))
    | (apply Awp.reg; (case hn => (simp only [List.length_cons, List.length_nil, Nat.reduceAdd] <;> rfl)))
    | (refine Awp.skip ?_; try simp only [go_sem, *])
    | refine Awp.block ?_
    | (apply Awp.cond; (case hc => (simp only [go_sem, *] <;> rfl)); all_goals (intro hg; (try simp only [Bool.not_true, Bool.not_false, reduceCtorEq] at hg)))
    | refine Awp.seq ?_)
          refine ⟨(i + 1, s.b), ⟨by dsimp only; omega, hg'.out, hsb, hsr2⟩, by dsimp only; omega, ?_⟩
          dsimp only
          (apply Ghost.mk [] []; (case hdead => rfl); (case hinj => rfl); (case hV => (simp only [go_sem, *]) <;> (repeat' (first | refine And.intro ?_ ?_ | exact View.int (by first | rfl | omega | (simp; done) | (rw [wrap_i64] <;> (try simp only [Int.natCast_add]) <;> omega) | (simp [*]; done)) | exact .own rfl (by decide)))); (case hB => (simp only [go_sem, *]) <;> (repeat' (first | exact ⟨_, rfl, .rowE (by first | rfl | omega | (simp; done) | (rw [wrap_i64] <;> (try simp only [Int.natCast_add]) <;> omega) | (simp [*]; done))⟩))))
    · have hlt' : ¬ (i : Int) < c.length := by omega
      rw [List.drop_eq_nil_of_le (by omega)] at hg
      simp only [List.foldl_nil] at hg
      subst hg
      clear hcr
      cases hd : decide ((4611686018427387904 : Int) ≤ st)
      · rw [fitR_neg hd]
        unfold rfS
        dsimp only
        repeat' (first
    | (apply Awp.sreg; (case hn => (simp only [List.length_cons, List.length_nil, Nat.reduceAdd] <;> rfl)))
    | (refine st_nil ?_)
    | (apply st_a; (case hc => rfl); (case he => (simp only [go_sem, *] <;> rfl)); (case hu => (simp only [updL_nil, updL_cons] <;> rfl)); (case hp => first | trivial | assumption | omega | (simp; done) | (simp; omega) | (simp [*]; done) | ((repeat' (refine And.intro ?_ ?_)) <;> first | trivial | assumption | omega | (simp; done) | (simp; omega) | (simp [*]; done))))
    | (refine Awp.ret ?_; try simp only [go_sem, *])
    | (refine Awp.skip ?_; try simp only [go_sem, *])
    | (refine Awp.exit ?_; try simp only [go_sem, *])
    | (apply Awp.cond; (case hc => (simp only [go_sem, *] <;> rfl)); all_goals (intro hg; (try simp only [Bool.not_true, Bool.not_false, reduceCtorEq] at hg)))
    | refine Awp.seq ?_)
        all_goals repeat' (first | exact Lower.bool (by first | rfl | (simp only [true_and, Bool.true_and, Bool.false_and, Bool.and_true, Bool.and_false, Bool.true_or, Bool.false_or, reduceIte, Bool.false_eq_true, *]; done) | (simp only [true_and, reduceIte, Bool.false_eq_true, *] <;> rfl) | (simp [true_and]; done) | (simp_all [true_and]; done) | omega) | exact Lower.int (by first | rfl | (simp only [true_and, Bool.true_and, Bool.false_and, Bool.and_true, Bool.and_false, Bool.true_or, Bool.false_or, reduceIte, Bool.false_eq_true, *]; done) | (simp only [true_and, reduceIte, Bool.false_eq_true, *] <;> rfl) | (simp [true_and]; done) | (simp_all [true_and]; done) | omega) | refine Lower.tupF ?_ | refine All2.cons ?_ ?_ | exact All2.nil)
      · rw [fitR_pos hd]
        unfold rfS
        dsimp only
        repeat' (first
    | (apply Awp.sreg; (case hn => (simp only [List.length_cons, List.length_nil, Nat.reduceAdd] <;> rfl)))
    | (refine st_nil ?_)
    | (apply st_a; (case hc => rfl); (case he => (simp only [go_sem, *] <;> rfl)); (case hu => (simp only [updL_nil, updL_cons] <;> rfl)); (case hp => first | trivial | assumption | omega | (simp; done) | (simp; omega) | (simp [*]; done) | ((repeat' (refine And.intro ?_ ?_)) <;> first | trivial | assumption | omega | (simp; done) | (simp; omega) | (simp [*]; done))))
    | (refine Awp.ret ?_; try simp only [go_sem, *])
    | (refine Awp.exit ?_; try simp only [go_sem, *])
    | (apply Awp.cond; (case hc => (simp only [go_sem, *] <;> rfl)); all_goals (intro hg; (try simp only [Bool.not_true, Bool.not_false, reduceCtorEq] at hg)))
    | refine Awp.seq ?_)
        all_goals repeat' (first | exact Lower.bool (by first | rfl | (simp only [true_and, Bool.true_and, Bool.false_and, Bool.and_true, Bool.and_false, Bool.true_or, Bool.false_or, reduceIte, Bool.false_eq_true, *]; done) | (simp only [true_and, reduceIte, Bool.false_eq_true, *] <;> rfl) | (simp [true_and]; done) | (simp_all [true_and]; done) | omega) | exact Lower.int (by first | rfl | (simp only [true_and, Bool.true_and, Bool.false_and, Bool.and_true, Bool.and_false, Bool.true_or, Bool.false_or, reduceIte, Bool.false_eq_true, *]; done) | (simp only [true_and, reduceIte, Bool.false_eq_true, *] <;> rfl) | (simp [true_and]; done) | (simp_all [true_and]; done) | omega) | refine Lower.tupF ?_ | refine All2.cons ?_ ?_ | exact All2.nil)
end Go.Proofs
end
