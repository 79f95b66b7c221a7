import Derived.Test.YtjlblefjcapljaaDoorWalkA
import Derived.Test.YtjlblefjcapljaaDoorLayB
section
set_option linter.unusedVariables false
set_option linter.unusedSimpArgs false
namespace Go.Proofs
open Go Go.Ab
set_option maxHeartbeats 4000000
set_option maxRecDepth 100000
set_option linter.unusedSimpArgs false
set_option linter.unusedVariables false
attribute [local irreducible] Awp aops aopsL Go.Ab.Pure PureOwn
theorem ints_snoc (l : List Int) (s : Int) : ints l ++ [[.v (.int .i64 s)]] = ints (l ++ [s]) := by simp [ints]
theorem ints_one1 (s : Int) : [[AV.v (.int .i64 s)]] = ints [s] := rfl
theorem take_snoc {α : Type} (l : List α) (d : α) (i : Nat) (h : i < l.length) : l.take (i + 1) = l.take i ++ [l.getD i d] := by
  rw [List.take_add_one, List.getElem?_eq_getElem h]
  simp [List.getD_eq_getElem?_getD, h]
def endsL (l : List Sty) (fr : Int) : List Int := fr :: (l.filter fun q => decide (fr < q.b)).map (·.b)
theorem endsL_len (l : List Sty) (fr : Int) : (endsL l fr).length ≤ l.length + 1 := by
  have := List.length_filter_le (fun q : Sty => decide (fr < q.b)) l
  simp [endsL]; omega
theorem endsL_step (l : List Sty) (fr : Int) (i : Nat) (h : i < l.length) : endsL (l.take (i + 1)) fr = endsL (l.take i) fr ++ (if decide (fr < (l.getD i zeroSty).b) = true then [(l.getD i zeroSty).b] else []) := by
  rw [take_snoc l zeroSty i h]
  unfold endsL
  rw [List.filter_append, List.map_append, List.cons_append]
  congr 1
  congr 1
  by_cases hp : decide (fr < (l.getD i zeroSty).b) = true
  · rw [if_pos hp, List.filter_cons_of_pos (by exact hp)]; rfl
  · rw [if_neg hp, List.filter_cons_of_neg (by exact hp)]; rfl
def startsZ (l : List Sty) (fr : Int) : List Int := Lib.compact (sortI (endsL l fr))
theorem starts_ok (l : List Sty) (fr : Int) (hl : l.length < 900000) : PureOwn Tryd.prog 32 [.sl (stys l), .v (.int .i64 fr)] (ints (startsZ l fr)) 1 3 := by
  have e0 := ints_one1 fr
  refine fn_own Tryd.F32 (Nat.le_of_ble_eq_true rfl) ?_; unfold Tryd.ac32
  repeat' (first
    | (apply Awp.sreg; (case hn => (simp only [List.length_cons, List.length_nil, Nat.reduceAdd] <;> rfl)))
    | (refine st_nil ?_)
    | (apply st_a; (case hc => rfl); (case he => (simp only [go_sem, *] <;> rfl)); (case hu => (simp only [updL_nil, updL_cons] <;> rfl)); (case hp => first | trivial | assumption | omega | (simp; done) | (simp; omega) | (simp [*]; done) | ((repeat' (refine And.intro ?_ ?_)) <;> first | trivial | assumption | omega | (simp; done) | (simp; omega) | (simp [*]; done))))
    | refine Awp.block ?_
    | refine Awp.seq ?_)
  refine Awp.loop (fun i : Nat => i ≤ l.length) 50 (fun i => mkS [(1, .v (.int .i64 fr)), (5, .own 0), (10, .sl (stys l)), (11, .v (.int .i64 l.length)), (12, .v (.int .i64 i))] [(0, .row (ints (endsL (l.take i) fr)) 1 3)]) (fun i => l.length - i) 0 (by omega) ?_ ?_
  · have e1 : endsL (l.take 0) fr = [fr] := rfl
    (apply Ghost.mk [(0, 2)] []; (case hdead => rfl); (case hinj => rfl); (case hV => (simp only [go_sem, *]) <;> (repeat' (first | refine And.intro ?_ ?_ | exact View.int (by first | rfl | omega | (simp; done) | (rw [wrap_i64] <;> (try simp only [Int.natCast_add]) <;> omega) | (simp [*]; done)) | exact .own rfl (by decide)))); (case hB => (simp only [go_sem, *]) <;> (repeat' (first | exact ⟨_, rfl, .rowE (by first | rfl | omega | (simp; done) | (rw [wrap_i64] <;> (try simp only [Int.natCast_add]) <;> omega) | (simp [*]; done))⟩))))
  · intro i hi
    by_cases hlt : i < l.length
    · have hlt' : (i : Int) < l.length := by omega
      have hat := stys_at l i hlt
      have hz : ((l.getD i zeroSty).cells).length = 8 := rfl
      have hst := endsL_step l fr i hlt
      have hln := endsL_len (l.take i) fr
      have htl : (l.take i).length = i := List.length_take_of_le hi
      cases hB : decide (fr < (l.getD i zeroSty).b)
      · rw [hB] at hst
        simp only [Bool.false_eq_true, if_false, List.append_nil] at hst
        repeat' (first
    | (apply Awp.sreg; (case hn => (simp only [List.length_cons, List.length_nil, Nat.reduceAdd] <;> rfl)))
    | (refine st_nil ?_)
    | (apply st_a; (case hc => rfl); (case he => (simp only [go_sem, *] <;> rfl)); (case hu => (simp only [updL_nil, updL_cons] <;> rfl)); (case hp => first | trivial | assumption | omega | (simp; done) | (simp; omega) | (simp [*]; done) | ((repeat' (refine And.intro ?_ ?_)) <;> first | trivial | assumption | omega | (simp; done) | (simp; omega) | (simp [*]; done))))
    | (apply Awp.reg; (case hn => (simp only [List.length_cons, List.length_nil, Nat.reduceAdd] <;> rfl)))
    | (refine Awp.skip ?_; try simp only [go_sem, *])
    | refine Awp.block ?_
    | (apply Awp.cond; (case hc => (simp only [go_sem, *] <;> rfl)); all_goals (intro hg; (try simp only [Bool.not_true, Bool.not_false, reduceCtorEq] at hg)))
    | refine Awp.seq ?_)
        refine ⟨i + 1, by omega, by omega, ?_⟩
        (apply Ghost.mk [] []; (case hdead => rfl); (case hinj => rfl); (case hV => (simp only [go_sem, *]) <;> (repeat' (first | refine And.intro ?_ ?_ | exact View.int (by first | rfl | omega | (simp; done) | (rw [wrap_i64] <;> (try simp only [Int.natCast_add]) <;> omega) | (simp [*]; done)) | exact .own rfl (by decide)))); (case hB => (simp only [go_sem, *]) <;> (repeat' (first | exact ⟨_, rfl, .rowE (by first | rfl | omega | (simp; done) | (rw [wrap_i64] <;> (try simp only [Int.natCast_add]) <;> omega) | (simp [*]; done))⟩))))
      · rw [hB] at hst
        simp only [if_true] at hst
        repeat' (first
    | (apply Awp.sreg; (case hn => (simp only [List.length_cons, List.length_nil, Nat.reduceAdd] <;> rfl)))
    | (refine st_nil ?_)
    | (apply st_a; (case hc => rfl); (case he => (simp only [go_sem, *] <;> rfl)); (case hu => (simp only [updL_nil, updL_cons] <;> rfl)); (case hp => first | trivial | assumption | omega | (simp; done) | (simp; omega) | (simp [*]; done) | ((repeat' (refine And.intro ?_ ?_)) <;> first | trivial | assumption | omega | (simp; done) | (simp; omega) | (simp [*]; done))))
    | (apply Awp.reg; (case hn => (simp only [List.length_cons, List.length_nil, Nat.reduceAdd] <;> rfl)))
    | (refine Awp.skip ?_; try simp only [go_sem, *])
    | refine Awp.block ?_
    | (apply Awp.cond; (case hc => (simp only [go_sem, *] <;> rfl)); all_goals (intro hg; (try simp only [Bool.not_true, Bool.not_false, reduceCtorEq] at hg)))
    | refine Awp.seq ?_)
        refine ⟨i + 1, by omega, by omega, ?_⟩
        (apply Ghost.mk [(0, 65)] []; (case hdead => rfl); (case hinj => rfl); (case hV => (simp only [go_sem, *]) <;> (repeat' (first | refine And.intro ?_ ?_ | exact View.int (by first | rfl | exact ints_snoc _ _ | omega | (simp; done) | (rw [wrap_i64] <;> (try simp only [Int.natCast_add]) <;> omega) | (simp [*]; done)) | exact .own rfl (by decide)))); (case hB => (simp only [go_sem, *]) <;> (repeat' (first | exact ⟨_, rfl, .rowE (by first | rfl | exact ints_snoc _ _ | omega | (simp; done) | (rw [wrap_i64] <;> (try simp only [Int.natCast_add]) <;> omega) | (simp [*]; done))⟩))))
    · have hlt' : ¬ (i : Int) < l.length := by omega
      have e1 : l.take i = l := List.take_of_length_le (by omega)
      have hln := endsL_len l fr
      have hs1 := sort_cc (endsL l fr) 0 51 3 (by omega)
      have hs2 : (sortI (endsL l fr)).length < 1000000 := by rw [sortI_len]; omega
      repeat' (first
    | (apply Awp.sreg; (case hn => (simp only [List.length_cons, List.length_nil, Nat.reduceAdd] <;> rfl)))
    | (refine st_nil ?_)
    | (apply st_a; (case hc => rfl); (case he => (simp only [go_sem, *] <;> rfl)); (case hu => (simp only [updL_nil, updL_cons] <;> rfl)); (case hp => first | trivial | assumption | omega | (simp; done) | (simp; omega) | (simp [*]; done) | ((repeat' (refine And.intro ?_ ?_)) <;> first | trivial | assumption | omega | (simp; done) | (simp; omega) | (simp [*]; done))))
    | (apply st_cc; (case hc => (simp only [go_sem, *] <;> rfl)); (case hcc => exact sort_cc (endsL l fr) _ _ 3 (by omega)); (case hh => (first | (simp only [List.mem_singleton, forall_eq]; first | (simp only [go_sem, *] <;> rfl) | (simp only [go_sem, *]; simp [ints])) | (intro p hp; simp only [List.mem_cons, List.not_mem_nil, or_false] at hp; rcases hp with rfl | rfl | rfl | rfl <;> (simp only [go_sem, *] <;> rfl)))); (case hu => (first | (simp; done) | decide)); (case hm => (first | decide | (simp; done))); (case hw => (simp only [updL_nil, updL_cons] <;> rfl)))
    | (apply st_cc; (case hc => (simp only [go_sem, *] <;> rfl)); (case hcc => exact compact_cc (sortI (endsL l fr)) _ _ 3 (by decide) hs2); (case hh => (first | (simp only [List.mem_singleton, forall_eq]; first | (simp only [go_sem, *] <;> rfl) | (simp only [go_sem, *]; simp [ints])) | (intro p hp; simp only [List.mem_cons, List.not_mem_nil, or_false] at hp; rcases hp with rfl | rfl | rfl | rfl <;> (simp only [go_sem, *] <;> rfl)))); (case hu => (first | (simp; done) | decide)); (case hm => (first | decide | (simp; done))); (case hw => (simp only [updL_nil, updL_cons] <;> rfl)))
    | (refine Awp.ret ?_; try simp only [go_sem, *])
    | (refine Awp.exit ?_; try simp only [go_sem, *])
    | (apply Awp.cond; (case hc => (simp only [go_sem, *] <;> rfl)); all_goals (intro hg; (try simp only [Bool.not_true, Bool.not_false, reduceCtorEq] at hg)))
    | refine Awp.seq ?_)
      exact ⟨54, rfl, rfl⟩
def Sty.at_ (x : Sty) (X Y : Int) : Sty := ⟨x.item, x.bay, X, Y, x.len, x.wid, x.a, x.b⟩
theorem spotC_ok (bs : List By) (near : List Sty) (x : Sty) (X Y : Int) (nm : Nat) (hb : bs.length < 1000000) (hl : near.length < 1000000) (hnm : 4 ≤ nm) :
    CallC Tryd.prog 50 [.agg [.v (.int .i64 X), .v (.int .i64 Y)], .bp 1 0, .bp 0 0, .bp 2 0] [(1, .box x.cells), (0, .box [.sl (bys bs)]), (2, .box [.own 3]), (3, .row (stys near) 8 31)] nm
      (.v (.bool (stayE bs near (x.at_ X Y) == 0))) [(1, some (.box (x.at_ X Y).cells)), (0, some (.box [.sl (bys bs)])), (2, some (.box [.own 3])), (3, some (.row (stys near) 8 31))] := by
  have c0 := stay_ok bs near (x.at_ X Y) hb hl
  generalize hE : stayE bs near (x.at_ X Y) = e at c0 ⊢
  unfold Sty.at_ at *
  refine fn_cc Tryd.F50 (Nat.le_of_ble_eq_true rfl) (bs := 4) ?_ ?_ ?_ ?_ ?_ ?_ ?_
  · simp
  · simp; omega
  · simp
  · simp
  · simp only [List.map_cons, List.map_nil, List.mem_cons, List.not_mem_nil, or_false]
    rintro p (rfl | rfl | rfl | rfl)
    · exact .box rfl fun j hj => .low (by match j, hj with | 0, _ | 1, _ | 2, _ | 3, _ | 4, _ | 5, _ | 6, _ | 7, _ => exact .same _ rfl)
    · exact .box rfl fun j hj => .low (by match j, hj with | 0, _ => exact .same _ rfl)
    · exact .box rfl fun j hj => by match j, hj with | 0, _ => exact .own rfl (by simp)
    · exact .row rfl
  · intro j hj
    match j, hj with
    | 0, _ => exact .low (.agg rfl fun j hj => by match j, hj with | 0, _ | 1, _ => exact .same _ rfl)
    | 1, _ => exact .bp rfl (by simp)
    | 2, _ => exact .bp rfl (by simp)
    | 3, _ => exact .bp rfl (by simp)
  · unfold Tryd.ac50
    clear hE
    have hav0 : av [AV.agg [AV.v (.int .i64 X), AV.v (.int .i64 Y)], AV.bp 1 0, AV.bp 0 0, AV.bp 2 0] 0 = AV.agg [AV.v (.int .i64 X), AV.v (.int .i64 Y)] := rfl
    have hav1 : av [AV.agg [AV.v (.int .i64 X), AV.v (.int .i64 Y)], AV.bp 1 0, AV.bp 0 0, AV.bp 2 0] 1 = AV.bp 1 0 := rfl
    have hav2 : av [AV.agg [AV.v (.int .i64 X), AV.v (.int .i64 Y)], AV.bp 1 0, AV.bp 0 0, AV.bp 2 0] 2 = AV.bp 0 0 := rfl
    have hav3 : av [AV.agg [AV.v (.int .i64 X), AV.v (.int .i64 Y)], AV.bp 1 0, AV.bp 0 0, AV.bp 2 0] 3 = AV.bp 2 0 := rfl
    repeat' (first
    | (apply Awp.sreg; (case hn => (simp only [List.length_cons, List.length_nil, Nat.reduceAdd] <;> rfl)))
    | (refine st_nil ?_)
    | (apply st_a; (case hc => rfl); (case he => (simp only [go_sem, *] <;> rfl)); (case hu => (simp only [updL_nil, updL_cons] <;> rfl)); (case hp => first | trivial | assumption | omega | (simp; done) | (simp; omega) | (simp [*]; done) | ((repeat' (refine And.intro ?_ ?_)) <;> first | trivial | assumption | omega | (simp; done) | (simp; omega) | (simp [*]; done))))
    | (apply st_cd; (case hc => (simp only [go_sem, *] <;> rfl)); (case hl => (simp only [go_sem, *] <;> rfl)); (case hn => (simp only [go_sem, *] <;> rfl)); (case hp => first | exact c0 | (have hXz := c0; simp only [go_sem, *] at hXz; exact hXz)); (case hd => first | exact .v _ | exact .any | exact .nils | (repeat' (first | exact Dry.v _ | exact Dry.any | exact Dry.nils | exact Dry.slE | refine Dry.agg ?_ | refine Dry.tup ?_ | (refine List.forall_mem_cons.2 (And.intro ?_ ?_)) | (intro cQ hQ; cases hQ; done)))); (case hm => first | decide | (simp; done)))
    | (refine Awp.ret ?_; try simp only [go_sem, *]))
    have hr : ∀ k, k < 4 → rn nm 4 k = k := fun k hk => by unfold rn; rw [if_neg (by omega)]
    refine ⟨4, Nat.le_refl _, .low (.same _ rfl), fun k b' hk => ?_⟩
    by_cases h3 : k = 3
    · subst h3
      have e1 : b' = .row (stys near) 8 31 := by simpa [upd] using hk.symm
      subst e1
      rw [hr 3 (by omega)]
      exact ⟨_, rfl, .row rfl⟩
    by_cases h2 : k = 2
    · subst h2
      have e1 : b' = .box [.own 3] := by simpa [upd] using hk.symm
      subst e1
      rw [hr 2 (by omega)]
      exact ⟨_, rfl, .box rfl fun j hj => by match j, hj with | 0, _ => exact .own (hr 3 (by omega)) (by simp)⟩
    by_cases h0 : k = 0
    · subst h0
      have e1 : b' = .box [.sl (bys bs)] := by simpa [upd] using hk.symm
      subst e1
      rw [hr 0 (by omega)]
      exact ⟨_, rfl, .box rfl fun j hj => .low (by match j, hj with | 0, _ => exact .same _ rfl)⟩
    by_cases h1 : k = 1
    · subst h1
      have e1 : b' = .box [.v (.string x.item), .v (.string x.bay), .v (.int .i64 X), .v (.int .i64 Y), .v (.int .i64 x.len), .v (.int .i64 x.wid), .v (.int .i64 x.a), .v (.int .i64 x.b)] := by simpa [upd] using hk.symm
      subst e1
      rw [hr 1 (by omega)]
      exact ⟨_, rfl, .box rfl fun j hj => .low (by match j, hj with | 0, _ | 1, _ | 2, _ | 3, _ | 4, _ | 5, _ | 6, _ | 7, _ => exact .same _ rfl)⟩
    · simp [upd, listH, h0, h1, h2, h3] at hk
end Go.Proofs
end
section
set_option linter.unusedVariables false
set_option linter.unusedSimpArgs false
namespace Go.Proofs
open Go Go.Ab
set_option maxHeartbeats 4000000
set_option maxRecDepth 100000
set_option linter.unusedSimpArgs false
set_option linter.unusedVariables false
attribute [local irreducible] Awp aops aopsL Go.Ab.Pure PureOwn
def nearB (x y : Sty) : Bool := (y.bay.toList == x.bay.toList) && decide (x.a < y.b) && decide (y.a < x.b)
def nearL (l : List Sty) (x : Sty) : List Sty := l.filter (nearB x)
def lowL (l : List Sty) (x : Sty) : List Int := 0 :: (nearL l x).map fun y => IntKind.i64.wrap (y.y + y.wid)
def leftL (l : List Sty) (x : Sty) : List Int := 0 :: (nearL l x).map fun y => IntKind.i64.wrap (y.x + y.len)
theorem nearL_step (l : List Sty) (x : Sty) (i : Nat) (h : i < l.length) : nearL (l.take (i + 1)) x = nearL (l.take i) x ++ (if nearB x (l.getD i zeroSty) = true then [l.getD i zeroSty] else []) := by
  rw [take_snoc l zeroSty i h]
  unfold nearL
  rw [List.filter_append]
  congr 1
  by_cases hp : nearB x (l.getD i zeroSty) = true
  · rw [if_pos hp, List.filter_cons_of_pos hp]; rfl
  · rw [if_neg hp, List.filter_cons_of_neg hp]; rfl
theorem nearL_len (l : List Sty) (x : Sty) : (nearL l x).length ≤ l.length := List.length_filter_le _ _
def spS (bs : List By) (l : List Sty) (x : Sty) (near : List Sty) (low left : List Int) (i : Nat) : AState :=
  mkS [(3, .bp 0 0), (5, .bp 1 0), (6, .bp 6 0), (8, .bp 2 0), (9, .own 4), (10, .own 5), (20, .sl (stys l)), (21, .v (.int .i64 l.length)), (22, .v (.int .i64 i))]
    [(0, .box [.sl (bys bs)]), (1, .box x.cells), (2, .box [.own 3]), (3, .row (stys near) 8 31), (4, .row (ints low) 1 3), (5, .row (ints left) 1 3), (6, .box [.v (.string ⟨⟨[]⟩⟩), .v (.string ⟨⟨[]⟩⟩), .v (.int .i64 0), .v (.int .i64 0), .v (.int .i64 0), .v (.int .i64 0), .v (.int .i64 0), .v (.int .i64 0)])]
def placeB (bs : List By) (l : List Sty) (x : Sty) (X Y : Int) : Bool := stayE bs (nearL l x) (x.at_ X Y) == 0
def spotE (bs : List By) (l : List Sty) (x : Sty) : Sty × Bool := match scanE (placeB bs l x) (Lib.compact (sortI (lowL l x))) (Lib.compact (sortI (leftL l x))) with
  | some (X, Y) => (x.at_ X Y, true)
  | none => (zeroSty, false)
def RI (c R : List Int) : Prop := R.length < 1000000 ∧ ∃ u, Lib.compact R = c ++ u ∧ ∀ z ∈ u, z = 0
theorem RI_next {c R : List Int} (hc : c.Pairwise (· < ·)) (h : RI c R) : RI c (comp0 R) := by
  obtain ⟨hl, u, e, hu⟩ := h
  refine ⟨by rw [comp0_len]; exact hl, ?_⟩
  unfold comp0
  rw [e, List.append_assoc]
  obtain ⟨u', e', hu'⟩ := compact_pre_of c (u ++ List.replicate (R.length - (c ++ u).length) 0) hc
  refine ⟨u', e', fun z hz => ?_⟩
  rcases List.mem_append.1 (hu' z hz) with h | h
  · exact hu z h
  · exact (List.mem_replicate.1 h).2
theorem left_asc (l : List Sty) (x : Sty) : (Lib.compact (sortI (leftL l x))).Pairwise (· < ·) ∧ (0 : Int) ∈ Lib.compact (sortI (leftL l x)) := by
  have h := compact_sorted (sortZ (leftL l x)) (sortZ_asc _)
  refine ⟨h.1, (h.2 0).2 ((mem_sortZ _ _).2 (by simp [leftL]))⟩
theorem comp0_at (l : List Int) (j : Nat) (h : j < (Lib.compact l).length) : (comp0 l).getD j 0 = (Lib.compact l).getD j 0 := getD_app h
def boxZ : List AV := [.v (.string ⟨⟨[]⟩⟩), .v (.string ⟨⟨[]⟩⟩), .v (.int .i64 0), .v (.int .i64 0), .v (.int .i64 0), .v (.int .i64 0), .v (.int .i64 0), .v (.int .i64 0)]
def sqS (bs : List By) (l : List Sty) (x : Sty) (q : Nat × (Int × Int) × List Int) : AState :=
  mkS [(3, .bp 0 0), (5, .bp 1 0), (6, .bp 6 0), (8, .bp 2 0), (10, .own 5), (13, .fn 50 [.bp 1 0, .bp 0 0, .bp 2 0]), (78, .pre 4 (Lib.compact (sortI (lowL l x))).length), (79, .v (.int .i64 (Lib.compact (sortI (lowL l x))).length)), (80, .v (.int .i64 q.1))]
    [(0, .box [.sl (bys bs)]), (1, .box (x.at_ q.2.1.1 q.2.1.2).cells), (2, .box [.own 3]), (3, .row (stys (nearL l x)) 8 31), (4, .row (ints (comp0 (sortI (lowL l x)))) 1 3), (5, .row (ints q.2.2) 1 3), (6, .box boxZ)]
def siS (bs : List By) (l : List Sty) (x : Sty) (j : Nat) (R : List Int) (y : Int) (q : Nat × (Int × Int)) : AState :=
  mkS [(3, .bp 0 0), (5, .bp 1 0), (6, .bp 6 0), (8, .bp 2 0), (10, .own 5), (13, .fn 50 [.bp 1 0, .bp 0 0, .bp 2 0]), (15, .v (.int .i64 y)), (78, .pre 4 (Lib.compact (sortI (lowL l x))).length), (79, .v (.int .i64 (Lib.compact (sortI (lowL l x))).length)), (80, .v (.int .i64 j)), (85, .pre 5 (Lib.compact R).length), (86, .v (.int .i64 (Lib.compact R).length)), (87, .v (.int .i64 q.1))]
    [(0, .box [.sl (bys bs)]), (1, .box (x.at_ q.2.1 q.2.2).cells), (2, .box [.own 3]), (3, .row (stys (nearL l x)) 8 31), (4, .row (ints (comp0 (sortI (lowL l x)))) 1 3), (5, .row (ints (comp0 R)) 1 3), (6, .box boxZ)]
theorem spot_ok (bs : List By) (l : List Sty) (x : Sty) (hb : bs.length < 100000) (hl : l.length < 90000) : Pure Tryd.prog 33 [.sl (bys bs), .sl (stys l), x.av] (.tup [(spotE bs l x).1.av, .v (.bool (spotE bs l x).2)]) := by
  refine fn_pure Tryd.F33 (Nat.le_of_ble_eq_true rfl) ?_; unfold Tryd.ac33
  repeat' (first
    | (apply Awp.sreg; (case hn => (simp only [List.length_cons, List.length_nil, Nat.reduceAdd] <;> rfl)))
    | (refine st_nil ?_)
    | (apply st_a; (case hc => rfl); (case he => (simp only [go_sem, *] <;> rfl)); (case hu => (simp only [updL_nil, updL_cons] <;> rfl)); (case hp => first | trivial | assumption | omega | (simp; done) | (simp; omega) | (simp [*]; done) | ((repeat' (refine And.intro ?_ ?_)) <;> first | trivial | assumption | omega | (simp; done) | (simp; omega) | (simp [*]; done))))
    | refine Awp.block ?_
    | refine Awp.seq ?_)
  refine Awp.loop (fun i : Nat => i ≤ l.length) 200 (fun i => spS bs l x (nearL (l.take i) x) (lowL (l.take i) x) (leftL (l.take i) x) i) (fun i => l.length - i) 0 (by omega) ?_ ?_
  · refine Ghost.trans (Ghost.nameBox 4 8 31 rfl (by decide)) ?_
    unfold spS
    (apply Ghost.mk [(2, 4), (3, 12), (4, 5), (5, 6), (6, 2)] []; (case hdead => rfl); (case hinj => rfl); (case hV => (simp only [go_sem, *]) <;> (repeat' (first | refine And.intro ?_ ?_ | exact View.int (by first | rfl | omega | (simp; done) | (rw [wrap_i64] <;> (try simp only [Int.natCast_add]) <;> omega) | (simp [*]; done)) | exact .bp rfl (by decide) | exact .own rfl (by decide)))); (case hB => (simp only [go_sem, *]) <;> (repeat' (first | refine And.intro ?_ ?_ | exact ⟨_, rfl, BView.boxF rfl⟩ | exact ⟨_, rfl, BView.own1 rfl (by decide)⟩ | exact ⟨_, rfl, .rowE (by first | rfl | omega | (simp; done) | (rw [wrap_i64] <;> (try simp only [Int.natCast_add]) <;> omega) | (simp [*]; done))⟩))))
  · intro i hi
    by_cases hlt : i < l.length
    · have hlt' : (i : Int) < l.length := by omega
      have hat := stys_at l i hlt
      have hz : ((l.getD i zeroSty).cells).length = 8 := rfl
      have hst := nearL_step l x i hlt
      have hln := nearL_len (l.take i) x
      have htl : (l.take i).length = i := List.length_take_of_le hi
      have h1 := stys_one (nearL (l.take i) x)
      have h2 : (lowL (l.take i) x).length = (nearL (l.take i) x).length + 1 := by simp [lowL]
      have h3 : (leftL (l.take i) x).length = (nearL (l.take i) x).length + 1 := by simp [leftL]
      cases hB : nearB x (l.getD i zeroSty)
      · rw [hB] at hst
        simp only [Bool.false_eq_true, if_false, List.append_nil] at hst
        have hB' := hB
        unfold nearB at hB'
        have e2 : lowL (l.take (i + 1)) x = lowL (l.take i) x := by unfold lowL; rw [hst]
        have e3 : leftL (l.take (i + 1)) x = leftL (l.take i) x := by unfold leftL; rw [hst]
        unfold spS
        repeat' (first
    | (apply Awp.sreg; (case hn => (simp only [List.length_cons, List.length_nil, Nat.reduceAdd] <;> rfl)))
    | (refine st_nil ?_)
    | (apply st_a; (case hc => rfl); (case he => (simp only [go_sem, *] <;> rfl)); (case hu => (simp only [updL_nil, updL_cons] <;> rfl)); (case hp => first | trivial | assumption | omega | (simp; done) | (simp; omega) | (simp [*]; done) | ((repeat' (refine And.intro ?_ ?_)) <;> first | trivial | assumption | omega | (simp; done) | (simp; omega) | (simp [*]; done))))
    | (apply st_m; (case hc => rfl); (case hg => (simp only [go_sem, *] <;> rfl)); (case he => (intro hQz; (try simp only [wantB_t, wantB_f, Bool.and_eq_true, Bool.not_eq_true', Bool.not_true, Bool.not_false, and_true, true_and] at hQz); simp only [go_sem, *] <;> rfl)); (case hp => (intro hQz; (try simp only [wantB_t, wantB_f, Bool.and_eq_true, Bool.not_eq_true', Bool.or_eq_false_iff, decide_eq_true_eq, decide_eq_false_iff_not, beq_iff_eq, beq_eq_false_iff_ne, bne_iff_ne, bne_eq_false_iff_eq, Int.not_lt, Int.not_le, Int.ofNat_lt, Int.ofNat_le] at hQz); first | trivial | assumption | omega | (simp; done) | (simp; omega) | (simp [*]; done) | ((repeat' (refine And.intro ?_ ?_)) <;> first | trivial | assumption | omega | (simp; done) | (simp; omega) | (simp [*]; done)))))
    | (apply Awp.reg; (case hn => (simp only [List.length_cons, List.length_nil, Nat.reduceAdd] <;> rfl)))
    | (refine Awp.skip ?_; try simp only [go_sem, *])
    | refine Awp.block ?_
    | (apply Awp.cond; (case hc => (simp only [go_sem, *] <;> rfl)); all_goals (intro hg; (try simp only [Bool.not_true, Bool.not_false, reduceCtorEq] at hg)))
    | refine Awp.seq ?_)
        refine ⟨i + 1, by omega, by omega, ?_⟩
        (apply Ghost.mk [] []; (case hdead => rfl); (case hinj => rfl); (case hV => (simp only [go_sem, *]) <;> (repeat' (first | refine And.intro ?_ ?_ | exact View.int (by first | rfl | omega | (simp; done) | (rw [wrap_i64] <;> (try simp only [Int.natCast_add]) <;> omega) | (simp [*]; done)) | exact .bp rfl (by decide) | exact .own rfl (by decide)))); (case hB => (simp only [go_sem, *]) <;> (repeat' (first | refine And.intro ?_ ?_ | exact ⟨_, rfl, BView.boxF rfl⟩ | exact ⟨_, rfl, BView.own1 rfl (by decide)⟩ | exact ⟨_, rfl, .rowE (by first | rfl | omega | (simp; done) | (rw [wrap_i64] <;> (try simp only [Int.natCast_add]) <;> omega) | (simp [*]; done))⟩))))
      · rw [hB] at hst
        simp only [if_true] at hst
        have hB' := hB
        unfold nearB at hB'
        have e2 : lowL (l.take (i + 1)) x = lowL (l.take i) x ++ [IntKind.i64.wrap ((l.getD i zeroSty).y + (l.getD i zeroSty).wid)] := by unfold lowL; rw [hst]; simp
        have e3 : leftL (l.take (i + 1)) x = leftL (l.take i) x ++ [IntKind.i64.wrap ((l.getD i zeroSty).x + (l.getD i zeroSty).len)] := by unfold leftL; rw [hst]; simp
        unfold spS
        repeat' (first
    | (apply Awp.sreg; (case hn => (simp only [List.length_cons, List.length_nil, Nat.reduceAdd] <;> rfl)))
    | (refine st_nil ?_)
    | (apply st_a; (case hc => rfl); (case he => (simp only [go_sem, *] <;> rfl)); (case hu => (simp only [updL_nil, updL_cons] <;> rfl)); (case hp => first | trivial | assumption | omega | (simp; done) | (simp; omega) | (simp [*]; done) | ((repeat' (refine And.intro ?_ ?_)) <;> first | trivial | assumption | omega | (simp; done) | (simp; omega) | (simp [*]; done))))
    | (apply st_m; (case hc => rfl); (case hg => (simp only [go_sem, *] <;> rfl)); (case he => (intro hQz; (try simp only [wantB_t, wantB_f, Bool.and_eq_true, Bool.not_eq_true', Bool.not_true, Bool.not_false, and_true, true_and] at hQz); simp only [go_sem, *] <;> rfl)); (case hp => (intro hQz; (try simp only [wantB_t, wantB_f, Bool.and_eq_true, Bool.not_eq_true', Bool.or_eq_false_iff, decide_eq_true_eq, decide_eq_false_iff_not, beq_iff_eq, beq_eq_false_iff_ne, bne_iff_ne, bne_eq_false_iff_eq, Int.not_lt, Int.not_le, Int.ofNat_lt, Int.ofNat_le] at hQz); first | trivial | assumption | omega | (simp; done) | (simp; omega) | (simp [*]; done) | ((repeat' (refine And.intro ?_ ?_)) <;> first | trivial | assumption | omega | (simp; done) | (simp; omega) | (simp [*]; done)))))
    | (apply Awp.reg; (case hn => (simp only [List.length_cons, List.length_nil, Nat.reduceAdd] <;> rfl)))
    | (refine Awp.skip ?_; try simp only [go_sem, *])
    | refine Awp.block ?_
    | (apply Awp.cond; (case hc => (simp only [go_sem, *] <;> rfl)); all_goals (intro hg; (try simp only [Bool.not_true, Bool.not_false, reduceCtorEq] at hg)))
    | refine Awp.seq ?_
    | (refine Awp.draw ?_)
    | (apply sl_a; (case hc => rfl); (case he => (simp only [go_sem, *] <;> rfl)); (case hu => (simp only [updL_nil, updL_cons] <;> rfl)); (case hl => (simp only [List.map_cons, List.map_nil] <;> rfl)); (case hp => first | trivial | assumption | omega | (simp; done) | (simp; omega) | (simp [*]; done) | ((repeat' (refine And.intro ?_ ?_)) <;> first | trivial | assumption | omega | (simp; done) | (simp; omega) | (simp [*]; done))))
    | (refine sl_nil (And.intro (by first | exact drawOk_of (by decide +kernel) | (simp only [List.map_cons, List.map_nil]; exact drawOk_of (by decide +kernel)) | decide) ?_)))
        refine ⟨i + 1, by omega, by omega, ?_⟩
        (apply Ghost.mk [(3, 231), (4, 241), (5, 250)] []; (case hdead => rfl); (case hinj => rfl); (case hV => (simp only [go_sem, *]) <;> (repeat' (first | refine And.intro ?_ ?_ | exact View.int (by first | rfl | exact (stys_snoc _ _) | exact (ints_snoc _ _) | omega | (simp; done) | (rw [wrap_i64] <;> (try simp only [Int.natCast_add]) <;> omega) | (simp [*]; done)) | exact .bp rfl (by decide) | exact .own rfl (by decide)))); (case hB => (simp only [go_sem, *]) <;> (repeat' (first | refine And.intro ?_ ?_ | exact ⟨_, rfl, BView.boxF rfl⟩ | exact ⟨_, rfl, BView.own1 rfl (by decide)⟩ | exact ⟨_, rfl, .rowE (by first | rfl | exact (stys_snoc _ _) | exact (ints_snoc _ _) | omega | (simp; done) | (rw [wrap_i64] <;> (try simp only [Int.natCast_add]) <;> omega) | (simp [*]; done))⟩))))
    · have hlt' : ¬ (i : Int) < l.length := by omega
      have e1 : l.take i = l := List.take_of_length_le (by omega)
      have hnl := nearL_len l x
      have hl1 : (lowL l x).length < 1000000 := by simp [lowL]; omega
      have hl2 : (leftL l x).length < 1000000 := by simp [leftL]; omega
      have hs1 : (sortI (lowL l x)).length < 1000000 := by rw [sortI_len]; omega
      unfold spS
      repeat' (first
    | (apply Awp.sreg; (case hn => (simp only [List.length_cons, List.length_nil, Nat.reduceAdd] <;> rfl)))
    | (refine st_nil ?_)
    | (apply st_a; (case hc => rfl); (case he => (simp only [go_sem, *] <;> rfl)); (case hu => (simp only [updL_nil, updL_cons] <;> rfl)); (case hp => first | trivial | assumption | omega | (simp; done) | (simp; omega) | (simp [*]; done) | ((repeat' (refine And.intro ?_ ?_)) <;> first | trivial | assumption | omega | (simp; done) | (simp; omega) | (simp [*]; done))))
    | (apply st_cc; (case hc => (simp only [go_sem, *] <;> rfl)); (case hcc => exact sort_cc (lowL l x) _ _ 3 hl1); (case hh => (first | (simp only [List.mem_singleton, forall_eq]; first | (simp only [go_sem, *] <;> rfl) | (simp only [go_sem, *]; simp [ints])) | (intro p hp; simp only [List.mem_cons, List.not_mem_nil, or_false] at hp; rcases hp with rfl | rfl | rfl | rfl <;> (simp only [go_sem, *] <;> rfl)))); (case hu => (first | (simp; done) | decide)); (case hm => (first | decide | (simp; done))); (case hw => (simp only [updL_nil, updL_cons] <;> rfl)))
    | (apply st_cc; (case hc => (simp only [go_sem, *] <;> rfl)); (case hcc => exact sort_cc (leftL l x) _ _ 3 hl2); (case hh => (first | (simp only [List.mem_singleton, forall_eq]; first | (simp only [go_sem, *] <;> rfl) | (simp only [go_sem, *]; simp [ints])) | (intro p hp; simp only [List.mem_cons, List.not_mem_nil, or_false] at hp; rcases hp with rfl | rfl | rfl | rfl <;> (simp only [go_sem, *] <;> rfl)))); (case hu => (first | (simp; done) | decide)); (case hm => (first | decide | (simp; done))); (case hw => (simp only [updL_nil, updL_cons] <;> rfl)))
    | (apply st_cc; (case hc => (simp only [go_sem, *] <;> rfl)); (case hcc => exact compact_pre (sortI (lowL l x)) _ _ 3 hs1); (case hh => (first | (simp only [List.mem_singleton, forall_eq]; first | (simp only [go_sem, *] <;> rfl) | (simp only [go_sem, *]; simp [ints])) | (intro p hp; simp only [List.mem_cons, List.not_mem_nil, or_false] at hp; rcases hp with rfl | rfl | rfl | rfl <;> (simp only [go_sem, *] <;> rfl)))); (case hu => (first | (simp; done) | decide)); (case hm => (first | decide | (simp; done))); (case hw => (simp only [updL_nil, updL_cons] <;> rfl)))
    | (refine Awp.exit ?_; try simp only [go_sem, *])
    | refine Awp.block ?_
    | (apply Awp.cond; (case hc => (simp only [go_sem, *] <;> rfl)); all_goals (intro hg; (try simp only [Bool.not_true, Bool.not_false, reduceCtorEq] at hg)))
    | refine Awp.seq ?_)
      have hasc := left_asc l x
      refine Awp.loop (fun q : Nat × (Int × Int) × List Int => q.1 ≤ (Lib.compact (sortI (lowL l x))).length ∧ RI (Lib.compact (sortI (leftL l x))) q.2.2 ∧ ∀ j, j < q.1 → ((Lib.compact (sortI (leftL l x))).find? fun X => placeB bs l x X ((Lib.compact (sortI (lowL l x))).getD j 0)) = none) 300
        (fun q => sqS bs l x q) (fun q => (Lib.compact (sortI (lowL l x))).length - q.1) (0, (x.x, x.y), sortI (leftL l x)) ⟨Nat.zero_le _, ⟨by rw [sortI_len]; exact hl2, [], by simp, by simp⟩, fun j hj => by simp at hj⟩ ?_ ?_
      · unfold sqS boxZ Sty.at_
        (apply Ghost.mk [] []; (case hdead => rfl); (case hinj => rfl); (case hV => (simp only [go_sem, *]) <;> (repeat' (first | refine And.intro ?_ ?_ | exact View.int (by first | rfl | omega | (simp; done) | (rw [wrap_i64] <;> (try simp only [Int.natCast_add]) <;> omega) | (simp [*]; done)) | exact .bp rfl (by decide) | exact .own rfl (by decide) | exact .pre rfl (by decide) | exact View.fn3 rfl rfl rfl (by decide)))); (case hB => (simp only [go_sem, *]) <;> (repeat' (first | refine And.intro ?_ ?_ | exact ⟨_, rfl, BView.boxF rfl⟩ | exact ⟨_, rfl, BView.own1 rfl (by decide)⟩ | exact ⟨_, rfl, .rowE (by first | rfl | omega | (simp; done) | (rw [wrap_i64] <;> (try simp only [Int.natCast_add]) <;> omega) | (simp [*]; done))⟩))))
      · clear hi hlt hlt' e1 hl1 hl2 i
        intro ⟨j, ⟨X0, Y0⟩, R⟩ ⟨hj, hR, hn⟩
        dsimp only at hj hR hn
        by_cases hlt : j < (Lib.compact (sortI (lowL l x))).length
        · have hR0 := hR
          obtain ⟨hRl, u, hu, huz⟩ := hR0
          have hc0 := comp0_at (sortI (lowL l x)) j hlt
          have hcl := comp0_len (sortI (lowL l x))
          have hcl2 := compact_len (sortI (lowL l x))
          have hlt' : (j : Int) < (Lib.compact (sortI (lowL l x))).length := by omega
          have hjc : j < (comp0 (sortI (lowL l x))).length := by omega
          have hle : (Lib.compact (sortI (lowL l x))).length ≤ (comp0 (sortI (lowL l x))).length := by omega
          have hat := ints_at (comp0 (sortI (lowL l x))) j hjc
          rw [hc0] at hat
          have hLB : (Lib.compact (sortI (lowL l x))).length < 1000000 := by omega
          clear hnl hcl hcl2 hs1
          unfold sqS boxZ
          repeat' (first
    | (apply Awp.sreg; (case hn => (simp only [List.length_cons, List.length_nil, Nat.reduceAdd] <;> rfl)))
    | (refine st_nil ?_)
    | (apply st_a; (case hc => rfl); (case he => (simp only [go_sem, *] <;> rfl)); (case hu => (simp only [updL_nil, updL_cons] <;> rfl)); (case hp => first | trivial | assumption | omega | (simp; done) | (simp; omega) | (simp [*]; done) | ((repeat' (refine And.intro ?_ ?_)) <;> first | trivial | assumption | omega | (simp; done) | (simp; omega) | (simp [*]; done))))
    | (apply st_cc; (case hc => (simp only [go_sem, *] <;> rfl)); (case hcc => exact compact_pre R _ _ 3 hRl); (case hh => (first | (simp only [List.mem_singleton, forall_eq]; first | (simp only [go_sem, *] <;> rfl) | (simp only [go_sem, *]; simp [ints])) | (intro p hp; simp only [List.mem_cons, List.not_mem_nil, or_false] at hp; rcases hp with rfl | rfl | rfl | rfl <;> (simp only [go_sem, *] <;> rfl)))); (case hu => (first | (simp; done) | decide)); (case hm => (first | decide | (simp; done))); (case hw => (simp only [updL_nil, updL_cons] <;> rfl)))
    | (refine Awp.skip ?_; try simp only [go_sem, *])
    | refine Awp.block ?_
    | (apply Awp.cond; (case hc => (simp only [go_sem, *] <;> rfl)); all_goals (intro hg; (try simp only [Bool.not_true, Bool.not_false, reduceCtorEq] at hg)))
    | refine Awp.seq ?_)
          refine Awp.loop (fun q : Nat × (Int × Int) => q.1 ≤ (Lib.compact R).length ∧ ∀ i, i < q.1 → placeB bs l x ((Lib.compact R).getD i 0) ((Lib.compact (sortI (lowL l x))).getD j 0) = false) 400
            (fun q => siS bs l x j R ((Lib.compact (sortI (lowL l x))).getD j 0) q) (fun q => (Lib.compact R).length - q.1) (0, (X0, Y0)) ⟨Nat.zero_le _, fun i hi => by simp at hi⟩ ?_ ?_
          · unfold siS boxZ
            (apply Ghost.mk [] []; (case hdead => rfl); (case hinj => rfl); (case hV => (simp only [go_sem, *]) <;> (repeat' (first | refine And.intro ?_ ?_ | exact View.int (by first | rfl | omega | (simp; done) | (rw [wrap_i64] <;> (try simp only [Int.natCast_add]) <;> omega) | (simp [*]; done)) | exact .bp rfl (by decide) | exact .own rfl (by decide) | exact .pre rfl (by decide) | exact View.fn3 rfl rfl rfl (by decide)))); (case hB => (simp only [go_sem, *]) <;> (repeat' (first | refine And.intro ?_ ?_ | exact ⟨_, rfl, BView.boxF rfl⟩ | exact ⟨_, rfl, BView.own1 rfl (by decide)⟩ | exact ⟨_, rfl, .rowE (by first | rfl | omega | (simp; done) | (rw [wrap_i64] <;> (try simp only [Int.natCast_add]) <;> omega) | (simp [*]; done))⟩))))
          · intro ⟨k, ⟨X1, Y1⟩⟩ ⟨hk, hno⟩
            dsimp only at hk hno
            have hRc := comp0_len R
            have hRc2 := compact_len R
            have hRB : (Lib.compact R).length < 1000000 := by omega
            by_cases hkl : k < (Lib.compact R).length
            · have hc1 := comp0_at R k hkl
              have hkl' : (k : Int) < (Lib.compact R).length := by omega
              have hkc : k < (comp0 R).length := by omega
              have hle2 : (Lib.compact R).length ≤ (comp0 R).length := by omega
              have hat2 := ints_at (comp0 R) k hkc
              rw [hc1] at hat2
              have hcl : (nearL l x).length < 1000000 := by have := nearL_len l x; omega
              have hhit : placeB bs l x ((Lib.compact R).getD k 0) ((Lib.compact (sortI (lowL l x))).getD j 0) = true → spotE bs l x = (x.at_ ((Lib.compact R).getD k 0) ((Lib.compact (sortI (lowL l x))).getD j 0), true) := fun hp => by
                unfold spotE
                rw [scan_hit hlt hn (inner_hit (P := fun X => placeB bs l x X ((Lib.compact (sortI (lowL l x))).getD j 0)) hu huz hasc.2 hkl hp hno)]
              have hnext : placeB bs l x ((Lib.compact R).getD k 0) ((Lib.compact (sortI (lowL l x))).getD j 0) = false → ∀ i, i < k + 1 → placeB bs l x ((Lib.compact R).getD i 0) ((Lib.compact (sortI (lowL l x))).getD j 0) = false := fun hp => ltSucc hno hp
              clear hat hc0 hc1 hRl hlt' hjc hRc hRc2 hno hn hu huz hasc hk
              generalize hoff : (Lib.compact R).getD k 0 = off at *
              generalize hy : (Lib.compact (sortI (lowL l x))).getD j 0 = y at *
              have cc : ∀ nm, 4 ≤ nm → CallC Tryd.prog 50 [.agg [.v (.int .i64 off), .v (.int .i64 y)], .bp 1 0, .bp 0 0, .bp 2 0] [(1, .box (x.at_ X1 Y1).cells), (0, .box [.sl (bys bs)]), (2, .box [.own 3]), (3, .row (stys (nearL l x)) 8 31)] nm
                  (.v (.bool (placeB bs l x off y))) [(1, some (.box (x.at_ off y).cells)), (0, some (.box [.sl (bys bs)])), (2, some (.box [.own 3])), (3, some (.row (stys (nearL l x)) 8 31))] :=
                fun nm h => spotC_ok bs (nearL l x) (x.at_ X1 Y1) off y nm (by omega) hcl h
              clear hoff
              cases hpb : placeB bs l x off y
              · have hnx := hnext hpb
                rw [hpb] at cc
                clear hhit hnext hpb hcl
                unfold siS boxZ Sty.at_ at *
                repeat' (first
    | (apply Awp.sreg; (case hn => (simp only [List.length_cons, List.length_nil, Nat.reduceAdd] <;> rfl)))
    | (refine st_nil ?_)
    | (apply st_a; (case hc => rfl); (case he => (simp only [go_sem, *] <;> rfl)); (case hu => (simp only [updL_nil, updL_cons] <;> rfl)); (case hp => first | trivial | assumption | omega | (simp; done) | (simp; omega) | (simp [*]; done) | ((repeat' (refine And.intro ?_ ?_)) <;> first | trivial | assumption | omega | (simp; done) | (simp; omega) | (simp [*]; done))))
    | (apply st_cc; (case hc => (simp only [go_sem, *] <;> rfl)); (case hcc => exact cc _ (by omega)); (case hh => (first | (simp only [List.mem_singleton, forall_eq]; first | (simp only [go_sem, *] <;> rfl) | (simp only [go_sem, *]; simp [ints])) | (intro p hp; simp only [List.mem_cons, List.not_mem_nil, or_false] at hp; rcases hp with rfl | rfl | rfl | rfl <;> (simp only [go_sem, *] <;> rfl)))); (case hu => (first | (simp; done) | decide)); (case hm => (first | decide | (simp; done))); (case hw => (simp only [updL_nil, updL_cons] <;> rfl)))
    | (apply Awp.reg; (case hn => (simp only [List.length_cons, List.length_nil, Nat.reduceAdd] <;> rfl)))
    | (refine Awp.skip ?_; try simp only [go_sem, *])
    | refine Awp.block ?_
    | (apply Awp.cond; (case hc => (simp only [go_sem, *] <;> rfl)); all_goals (intro hg; (try simp only [Bool.not_true, Bool.not_false, reduceCtorEq] at hg)))
    | refine Awp.seq ?_)
                refine ⟨(k + 1, (off, y)), ⟨by dsimp only; omega, hnx⟩, by dsimp only; omega, ?_⟩
                (apply Ghost.mk [] []; (case hdead => rfl); (case hinj => rfl); (case hV => (simp only [go_sem, *]) <;> (repeat' (first | refine And.intro ?_ ?_ | exact View.int (by first | rfl | omega | (simp; done) | (rw [wrap_i64] <;> (try simp only [Int.natCast_add]) <;> omega) | (simp [*]; done)) | exact .bp rfl (by decide) | exact .own rfl (by decide) | exact .pre rfl (by decide) | exact View.fn3 rfl rfl rfl (by decide)))); (case hB => (simp only [go_sem, *]) <;> (repeat' (first | refine And.intro ?_ ?_ | exact ⟨_, rfl, BView.boxF rfl⟩ | exact ⟨_, rfl, BView.own1 rfl (by decide)⟩ | exact ⟨_, rfl, .rowE (by first | rfl | omega | (simp; done) | (rw [wrap_i64] <;> (try simp only [Int.natCast_add]) <;> omega) | (simp [*]; done))⟩))))
              · have hr := hhit hpb
                rw [hr]
                rw [hpb] at cc
                clear hhit hnext hpb hcl hr
                unfold siS boxZ Sty.at_ at *
                repeat' (first
    | (apply Awp.sreg; (case hn => (simp only [List.length_cons, List.length_nil, Nat.reduceAdd] <;> rfl)))
    | (refine st_nil ?_)
    | (apply st_a; (case hc => rfl); (case he => (simp only [go_sem, *] <;> rfl)); (case hu => (simp only [updL_nil, updL_cons] <;> rfl)); (case hp => first | trivial | assumption | omega | (simp; done) | (simp; omega) | (simp [*]; done) | ((repeat' (refine And.intro ?_ ?_)) <;> first | trivial | assumption | omega | (simp; done) | (simp; omega) | (simp [*]; done))))
    | (apply st_cc; (case hc => (simp only [go_sem, *] <;> rfl)); (case hcc => exact cc _ (by omega)); (case hh => (first | (simp only [List.mem_singleton, forall_eq]; first | (simp only [go_sem, *] <;> rfl) | (simp only [go_sem, *]; simp [ints])) | (intro p hp; simp only [List.mem_cons, List.not_mem_nil, or_false] at hp; rcases hp with rfl | rfl | rfl | rfl <;> (simp only [go_sem, *] <;> rfl)))); (case hu => (first | (simp; done) | decide)); (case hm => (first | decide | (simp; done))); (case hw => (simp only [updL_nil, updL_cons] <;> rfl)))
    | (refine Awp.ret ?_; try simp only [go_sem, *])
    | (refine Awp.skip ?_; try simp only [go_sem, *])
    | refine Awp.block ?_
    | (apply Awp.cond; (case hc => (simp only [go_sem, *] <;> rfl)); all_goals (intro hg; (try simp only [Bool.not_true, Bool.not_false, reduceCtorEq] at hg)))
    | refine Awp.seq ?_)
                all_goals repeat' (first | exact Lower.bool (by first | rfl | (simp only [true_and, Bool.true_and, Bool.false_and, Bool.and_true, Bool.and_false, Bool.true_or, Bool.false_or, reduceIte, Bool.false_eq_true, *]; done) | (simp only [true_and, reduceIte, Bool.false_eq_true, *] <;> rfl) | (simp [true_and]; done) | (simp_all [true_and]; done) | omega) | exact Lower.int (by first | rfl | (simp only [true_and, Bool.true_and, Bool.false_and, Bool.and_true, Bool.and_false, Bool.true_or, Bool.false_or, reduceIte, Bool.false_eq_true, *]; done) | (simp only [true_and, reduceIte, Bool.false_eq_true, *] <;> rfl) | (simp [true_and]; done) | (simp_all [true_and]; done) | omega) | exact Lower.str (by first | rfl | (simp only [true_and, Bool.true_and, Bool.false_and, Bool.and_true, Bool.and_false, Bool.true_or, Bool.false_or, reduceIte, Bool.false_eq_true, *]; done) | (simp only [true_and, reduceIte, Bool.false_eq_true, *] <;> rfl) | (simp [true_and]; done) | (simp_all [true_and]; done) | omega) | refine Lower.aggF ?_ | refine Lower.tupF ?_ | refine All2.cons ?_ ?_ | exact All2.nil)
            · have hkl' : ¬ (k : Int) < (Lib.compact R).length := by omega
              have hRn := RI_next hasc.1 hR
              have hne := ltSucc hn (inner_none (P := fun X => placeB bs l x X ((Lib.compact (sortI (lowL l x))).getD j 0)) hu (Nat.le_of_not_lt hkl) hno)
              clear hn hno hu huz hat hc0 hasc
              unfold siS boxZ
              repeat' (first
    | (apply Awp.sreg; (case hn => (simp only [List.length_cons, List.length_nil, Nat.reduceAdd] <;> rfl)))
    | (refine st_nil ?_)
    | (apply st_a; (case hc => rfl); (case he => (simp only [go_sem, *] <;> rfl)); (case hu => (simp only [updL_nil, updL_cons] <;> rfl)); (case hp => first | trivial | assumption | omega | (simp; done) | (simp; omega) | (simp [*]; done) | ((repeat' (refine And.intro ?_ ?_)) <;> first | trivial | assumption | omega | (simp; done) | (simp; omega) | (simp [*]; done))))
    | (apply Awp.reg; (case hn => (simp only [List.length_cons, List.length_nil, Nat.reduceAdd] <;> rfl)))
    | (refine Awp.exit ?_; try simp only [go_sem, *])
    | (apply Awp.cond; (case hc => (simp only [go_sem, *] <;> rfl)); all_goals (intro hg; (try simp only [Bool.not_true, Bool.not_false, reduceCtorEq] at hg)))
    | refine Awp.seq ?_)
              refine ⟨(j + 1, (X1, Y1), comp0 R), ⟨by dsimp only; omega, hRn, hne⟩, by dsimp only; omega, ?_⟩
              unfold Sty.at_
              (apply Ghost.mk [] []; (case hdead => rfl); (case hinj => rfl); (case hV => (simp only [go_sem, *]) <;> (repeat' (first | refine And.intro ?_ ?_ | exact View.int (by first | rfl | omega | (simp; done) | (rw [wrap_i64] <;> (try simp only [Int.natCast_add]) <;> omega) | (simp [*]; done)) | exact .bp rfl (by decide) | exact .own rfl (by decide) | exact .pre rfl (by decide) | exact View.fn3 rfl rfl rfl (by decide)))); (case hB => (simp only [go_sem, *]) <;> (repeat' (first | refine And.intro ?_ ?_ | exact ⟨_, rfl, BView.boxF rfl⟩ | exact ⟨_, rfl, BView.own1 rfl (by decide)⟩ | exact ⟨_, rfl, .rowE (by first | rfl | omega | (simp; done) | (rw [wrap_i64] <;> (try simp only [Int.natCast_add]) <;> omega) | (simp [*]; done))⟩))))
        · have hlt' : ¬ (j : Int) < (Lib.compact (sortI (lowL l x))).length := by omega
          have hr : spotE bs l x = (zeroSty, false) := by
            unfold spotE
            rw [scan_no (Nat.le_of_not_lt hlt) hn]
          rw [hr]
          clear hn hR hasc hr
          unfold sqS boxZ
          repeat' (first
    | (apply Awp.sreg; (case hn => (simp only [List.length_cons, List.length_nil, Nat.reduceAdd] <;> rfl)))
    | (refine st_nil ?_)
    | (apply st_a; (case hc => rfl); (case he => (simp only [go_sem, *] <;> rfl)); (case hu => (simp only [updL_nil, updL_cons] <;> rfl)); (case hp => first | trivial | assumption | omega | (simp; done) | (simp; omega) | (simp [*]; done) | ((repeat' (refine And.intro ?_ ?_)) <;> first | trivial | assumption | omega | (simp; done) | (simp; omega) | (simp [*]; done))))
    | (refine Awp.ret ?_; try simp only [go_sem, *])
    | (refine Awp.exit ?_; try simp only [go_sem, *])
    | (apply Awp.cond; (case hc => (simp only [go_sem, *] <;> rfl)); all_goals (intro hg; (try simp only [Bool.not_true, Bool.not_false, reduceCtorEq] at hg)))
    | refine Awp.seq ?_)
          all_goals repeat' (first | exact Lower.bool (by first | rfl | (simp only [zeroSty, Bool.true_and, Bool.false_and, Bool.and_true, Bool.and_false, Bool.true_or, Bool.false_or, reduceIte, Bool.false_eq_true, *]; done) | (simp only [zeroSty, reduceIte, Bool.false_eq_true, *] <;> rfl) | (simp [zeroSty]; done) | (simp_all [zeroSty]; done) | omega) | exact Lower.int (by first | rfl | (simp only [zeroSty, Bool.true_and, Bool.false_and, Bool.and_true, Bool.and_false, Bool.true_or, Bool.false_or, reduceIte, Bool.false_eq_true, *]; done) | (simp only [zeroSty, reduceIte, Bool.false_eq_true, *] <;> rfl) | (simp [zeroSty]; done) | (simp_all [zeroSty]; done) | omega) | exact Lower.str (by first | rfl | (simp only [zeroSty, Bool.true_and, Bool.false_and, Bool.and_true, Bool.and_false, Bool.true_or, Bool.false_or, reduceIte, Bool.false_eq_true, *]; done) | (simp only [zeroSty, reduceIte, Bool.false_eq_true, *] <;> rfl) | (simp [zeroSty]; done) | (simp_all [zeroSty]; done) | omega) | refine Lower.aggF ?_ | refine Lower.tupF ?_ | refine All2.cons ?_ ?_ | exact All2.nil)
end Go.Proofs
end
section
set_option linter.unusedVariables false
set_option linter.unusedSimpArgs false
namespace Go.Proofs
open Go Go.Ab
set_option maxHeartbeats 4000000
set_option maxRecDepth 100000
set_option linter.unusedSimpArgs false
set_option linter.unusedVariables false
attribute [local irreducible] Awp aops aopsL Go.Ab.Pure PureOwn
def sB : ByteArray := ⟨⟨[66]⟩⟩
def sI : ByteArray := ⟨⟨[73]⟩⟩
def mk (x y len wid a b : Int) : Sty := ⟨sI, sB, x, y, len, wid, a, b⟩
theorem mk_ok (x y len wid a b : Int) : Pure Tryd.prog 21 [.v (.int .i64 x), .v (.int .i64 y), .v (.int .i64 len), .v (.int .i64 wid), .v (.int .i64 a), .v (.int .i64 b)] (mk x y len wid a b).av := by
  refine fn_pure Tryd.F21 (Nat.le_of_ble_eq_true rfl) ?_; unfold Tryd.ac21
  repeat' (first
    | (apply Awp.sreg; (case hn => (simp only [List.length_cons, List.length_nil, Nat.reduceAdd] <;> rfl)))
    | (refine st_nil ?_)
    | (apply st_a; (case hc => rfl); (case he => (simp only [go_sem, *] <;> rfl)); (case hu => (simp only [updL_nil, updL_cons] <;> rfl)); (case hp => first | trivial | assumption | omega | (simp; done) | (simp; omega) | (simp [*]; done) | ((repeat' (refine And.intro ?_ ?_)) <;> first | trivial | assumption | omega | (simp; done) | (simp; omega) | (simp [*]; done))))
    | (refine Awp.ret ?_; try simp only [go_sem, *]))
  all_goals repeat' (first | exact Lower.int (by first | rfl | (simp only [mk, sB, sI, Bool.true_and, Bool.false_and, Bool.and_true, Bool.and_false, Bool.true_or, Bool.false_or, reduceIte, Bool.false_eq_true, *]; done) | (simp only [mk, sB, sI, reduceIte, Bool.false_eq_true, *] <;> rfl) | (simp [mk, sB, sI]; done) | (simp_all [mk, sB, sI]; done) | omega) | exact Lower.str (by first | rfl | (simp only [mk, sB, sI, Bool.true_and, Bool.false_and, Bool.and_true, Bool.and_false, Bool.true_or, Bool.false_or, reduceIte, Bool.false_eq_true, *]; done) | (simp only [mk, sB, sI, reduceIte, Bool.false_eq_true, *] <;> rfl) | (simp [mk, sB, sI]; done) | (simp_all [mk, sB, sI]; done) | omega) | refine Lower.aggF ?_ | refine All2.cons ?_ ?_ | exact All2.nil)
theorem fs_hit {α β : Type} {f : α → Option β} {l : List α} {d : α} {i : Nat} {b : β} (hi : i < l.length) (hj : ∀ j, j < i → f (l.getD j d) = none) (h : f (l.getD i d) = some b) : l.findSome? f = some b := by
  have h1 : l.getD i d = l[i] := by simp [List.getD_eq_getElem?_getD, hi]
  have e : l = l.take i ++ l[i] :: l.drop (i + 1) := by rw [List.getElem_cons_drop, List.take_append_drop]
  have hn : (l.take i).findSome? f = none := by
    rw [List.findSome?_eq_none_iff]
    intro y hy
    obtain ⟨j, hjl, rfl⟩ := List.getElem_of_mem hy
    have hji : j < i := by simp at hjl; omega
    have := hj j hji
    have hjll : j < l.length := by omega
    have h2 : l.getD j d = (l.take i)[j] := by simp [List.getD_eq_getElem?_getD, hjll]
    rwa [h2] at this
  rw [h1] at h
  rw [e, List.findSome?_append, hn, Option.none_or, List.findSome?_cons, h]
theorem fs_no {α β : Type} {f : α → Option β} {l : List α} {d : α} {i : Nat} (hi : l.length ≤ i) (hj : ∀ j, j < i → f (l.getD j d) = none) : l.findSome? f = none := by
  rw [List.findSome?_eq_none_iff]
  intro y hy
  obtain ⟨j, hjl, rfl⟩ := List.getElem_of_mem hy
  have := hj j (by omega)
  rwa [List.getD_eq_getElem?_getD, List.getElem?_eq_getElem hjl, Option.getD_some] at this
def Sty.when (x : Sty) (nm : ByteArray) (a b : Int) : Sty := ⟨x.item, nm, x.x, x.y, x.len, x.wid, a, b⟩
def tryB (bs : List By) (l : List Sty) (x : Sty) (h t : Int) (q : By) : Option Sty := if (spotE bs l (x.when q.nm t (IntKind.i64.wrap (t + h)))).2 then some (spotE bs l (x.when q.nm t (IntKind.i64.wrap (t + h)))).1 else none
def fitR (x : Sty) (h : Int) : Bool := !sideB x.len || !sideB x.wid || decide (h < 1) || decide (1048576 < h) || decide (x.a < 0) || decide (1048576 < x.a)
def fitS (bs : List By) (l : List Sty) (x : Sty) (h : Int) : Option Sty := (startsZ l x.a).findSome? fun t => bs.findSome? (tryB bs l x h t)
def fitE (bs : List By) (l : List Sty) (x : Sty) (h : Int) : Sty × Int :=
  if checkE bs l != 0 then (zeroSty, checkE bs l) else if !idB x.item then (zeroSty, 6) else if fitR x h then (zeroSty, 9) else if decide ((128 : Int) ≤ l.length) then (zeroSty, 12)
  else match fitS bs l x h with
    | some y => (y, 0)
    | none => (zeroSty, 18)
theorem fit_ok (bs : List By) (l : List Sty) (x : Sty) (h : Int) (hb : bs.length < 90000) (hl : l.length < 90000) : Pure Tryd.prog 17 [.sl (bys bs), .sl (stys l), x.av, .v (.int .i64 h)] (.tup [(fitE bs l x h).1.av, .v (.int .i64 (fitE bs l x h).2)]) := by
  have c0 := check_ok bs l (by omega) (by omega)
  have c1 := isid_ok x.item
  have c2 := starts_ok l x.a (by omega)
  unfold fitE
  by_cases hC : checkE bs l = 0
  case neg =>
    have hC' : (checkE bs l != 0) = true := by simpa using hC
    rw [if_pos hC']
    generalize checkE bs l = e at *
    refine fn_pure Tryd.F17 (Nat.le_of_ble_eq_true rfl) ?_; unfold Tryd.ac17
    repeat' (first
    | (apply Awp.sreg; (case hn => (simp only [List.length_cons, List.length_nil, Nat.reduceAdd] <;> rfl)))
    | (refine st_nil ?_)
    | (apply st_a; (case hc => rfl); (case he => (simp only [go_sem, *] <;> rfl)); (case hu => (simp only [updL_nil, updL_cons] <;> rfl)); (case hp => first | trivial | assumption | omega | (simp; done) | (simp; omega) | (simp [*]; done) | ((repeat' (refine And.intro ?_ ?_)) <;> first | trivial | assumption | omega | (simp; done) | (simp; omega) | (simp [*]; done))))
    | (apply st_c; (case hc => (simp only [go_sem, *] <;> rfl)); (case hl => (simp only [go_sem, *] <;> rfl)); (case hn => (simp only [go_sem, *] <;> rfl)); (case hp => first | exact c0 | (have hXz := c0; simp only [go_sem, *] at hXz; exact hXz)))
    | (refine Awp.ret ?_; try simp only [go_sem, *])
    | (apply Awp.cond; (case hc => (simp only [go_sem, *] <;> rfl)); all_goals (intro hg; (try simp only [Bool.not_true, Bool.not_false, reduceCtorEq] at hg)))
    | refine Awp.seq ?_)
    all_goals repeat' (first | exact Lower.int (by first | rfl | (simp only [zeroSty, Bool.true_and, Bool.false_and, Bool.and_true, Bool.and_false, Bool.true_or, Bool.false_or, reduceIte, Bool.false_eq_true, *]; done) | (simp only [zeroSty, reduceIte, Bool.false_eq_true, *] <;> rfl) | (simp [zeroSty]; done) | (simp_all [zeroSty]; done) | omega) | exact Lower.str (by first | rfl | (simp only [zeroSty, Bool.true_and, Bool.false_and, Bool.and_true, Bool.and_false, Bool.true_or, Bool.false_or, reduceIte, Bool.false_eq_true, *]; done) | (simp only [zeroSty, reduceIte, Bool.false_eq_true, *] <;> rfl) | (simp [zeroSty]; done) | (simp_all [zeroSty]; done) | omega) | refine Lower.aggF ?_ | refine Lower.tupF ?_ | refine All2.cons ?_ ?_ | exact All2.nil)
  rw [if_neg (by rw [hC]; simp)]
  rw [hC] at c0
  cases h1 : idB x.item
  · rw [if_pos (by simp)]
    refine fn_pure Tryd.F17 (Nat.le_of_ble_eq_true rfl) ?_; unfold Tryd.ac17
    repeat' (first
    | (apply Awp.sreg; (case hn => (simp only [List.length_cons, List.length_nil, Nat.reduceAdd] <;> rfl)))
    | (refine st_nil ?_)
    | (apply st_a; (case hc => rfl); (case he => (simp only [go_sem, *] <;> rfl)); (case hu => (simp only [updL_nil, updL_cons] <;> rfl)); (case hp => first | trivial | assumption | omega | (simp; done) | (simp; omega) | (simp [*]; done) | ((repeat' (refine And.intro ?_ ?_)) <;> first | trivial | assumption | omega | (simp; done) | (simp; omega) | (simp [*]; done))))
    | (apply st_c; (case hc => (simp only [go_sem, *] <;> rfl)); (case hl => (simp only [go_sem, *] <;> rfl)); (case hn => (simp only [go_sem, *] <;> rfl)); (case hp => first | exact c0 | (have hXz := c0; simp only [go_sem, *] at hXz; exact hXz)))
    | (apply st_c; (case hc => (simp only [go_sem, *] <;> rfl)); (case hl => (simp only [go_sem, *] <;> rfl)); (case hn => (simp only [go_sem, *] <;> rfl)); (case hp => first | exact c1 | (have hXz := c1; simp only [go_sem, *] at hXz; exact hXz)))
    | (refine Awp.ret ?_; try simp only [go_sem, *])
    | (refine Awp.skip ?_; try simp only [go_sem, *])
    | refine Awp.block ?_
    | (apply Awp.cond; (case hc => (simp only [go_sem, *] <;> rfl)); all_goals (intro hg; (try simp only [Bool.not_true, Bool.not_false, reduceCtorEq] at hg)))
    | refine Awp.seq ?_)
    all_goals repeat' (first | exact Lower.int (by first | rfl | (simp only [zeroSty, Bool.true_and, Bool.false_and, Bool.and_true, Bool.and_false, Bool.true_or, Bool.false_or, reduceIte, Bool.false_eq_true, *]; done) | (simp only [zeroSty, reduceIte, Bool.false_eq_true, *] <;> rfl) | (simp [zeroSty]; done) | (simp_all [zeroSty]; done) | omega) | exact Lower.str (by first | rfl | (simp only [zeroSty, Bool.true_and, Bool.false_and, Bool.and_true, Bool.and_false, Bool.true_or, Bool.false_or, reduceIte, Bool.false_eq_true, *]; done) | (simp only [zeroSty, reduceIte, Bool.false_eq_true, *] <;> rfl) | (simp [zeroSty]; done) | (simp_all [zeroSty]; done) | omega) | refine Lower.aggF ?_ | refine Lower.tupF ?_ | refine All2.cons ?_ ?_ | exact All2.nil)
  rw [if_neg (by simp)]
  rw [h1] at c1
  cases h2 : fitR x h
  case true =>
    rw [if_pos rfl]
    have h2' := h2
    unfold fitR at h2'
    refine fn_pure Tryd.F17 (Nat.le_of_ble_eq_true rfl) ?_; unfold Tryd.ac17
    repeat' (first
    | (apply Awp.sreg; (case hn => (simp only [List.length_cons, List.length_nil, Nat.reduceAdd] <;> rfl)))
    | (refine st_nil ?_)
    | (apply st_a; (case hc => rfl); (case he => (simp only [go_sem, *] <;> rfl)); (case hu => (simp only [updL_nil, updL_cons] <;> rfl)); (case hp => first | trivial | assumption | omega | (simp; done) | (simp; omega) | (simp [*]; done) | ((repeat' (refine And.intro ?_ ?_)) <;> first | trivial | assumption | omega | (simp; done) | (simp; omega) | (simp [*]; done))))
    | (apply st_m; (case hc => rfl); (case hg => (simp only [go_sem, *] <;> rfl)); (case he => (intro hQz; (try simp only [wantB_t, wantB_f, Bool.and_eq_true, Bool.not_eq_true', Bool.not_true, Bool.not_false, and_true, true_and] at hQz); simp only [go_sem, *] <;> rfl)); (case hp => (intro hQz; (try simp only [wantB_t, wantB_f, Bool.and_eq_true, Bool.not_eq_true', Bool.or_eq_false_iff, decide_eq_true_eq, decide_eq_false_iff_not, beq_iff_eq, beq_eq_false_iff_ne, bne_iff_ne, bne_eq_false_iff_eq, Int.not_lt, Int.not_le, Int.ofNat_lt, Int.ofNat_le] at hQz); first | trivial | assumption | omega | (simp; done) | (simp; omega) | (simp [*]; done) | ((repeat' (refine And.intro ?_ ?_)) <;> first | trivial | assumption | omega | (simp; done) | (simp; omega) | (simp [*]; done)))))
    | (apply st_c; (case hc => (simp only [go_sem, *] <;> rfl)); (case hl => (simp only [go_sem, *] <;> rfl)); (case hn => (simp only [go_sem, *] <;> rfl)); (case hp => first | exact c0 | (have hXz := c0; simp only [go_sem, *] at hXz; exact hXz)))
    | (apply st_c; (case hc => (simp only [go_sem, *] <;> rfl)); (case hl => (simp only [go_sem, *] <;> rfl)); (case hn => (simp only [go_sem, *] <;> rfl)); (case hp => first | exact c1 | (have hXz := c1; simp only [go_sem, *] at hXz; exact hXz)))
    | (apply st_mc; (case hop => rfl); (case hg => (simp only [go_sem, *] <;> rfl)); (case hc => (intro hQz; (try simp only [wantB_t, wantB_f, Bool.and_eq_true, Bool.not_eq_true', Bool.not_true, Bool.not_false, and_true, true_and] at hQz); simp only [go_sem, *] <;> rfl)); (case hl => (intro hQz; (try simp only [wantB_t, wantB_f, Bool.and_eq_true, Bool.not_eq_true', Bool.not_true, Bool.not_false, and_true, true_and] at hQz); simp only [go_sem, *] <;> rfl)); (case hn => (intro hQz; (try simp only [wantB_t, wantB_f, Bool.and_eq_true, Bool.not_eq_true', Bool.not_true, Bool.not_false, and_true, true_and] at hQz); simp only [go_sem, *] <;> rfl)); (case hp => intro hQz; first | exact side_ok _ | (have hXz := side_ok _; simp only [go_sem, *] at hXz; exact hXz)))
    | (apply st_c; (case hc => (simp only [go_sem, *] <;> rfl)); (case hl => (simp only [go_sem, *] <;> rfl)); (case hn => (simp only [go_sem, *] <;> rfl)); (case hp => first | exact side_ok _ | (have hXz := side_ok _; simp only [go_sem, *] at hXz; exact hXz)))
    | (refine Awp.ret ?_; try simp only [go_sem, *])
    | (refine Awp.skip ?_; try simp only [go_sem, *])
    | refine Awp.block ?_
    | (apply Awp.cond; (case hc => (simp only [go_sem, *] <;> rfl)); all_goals (intro hg; (try simp only [Bool.not_true, Bool.not_false, reduceCtorEq] at hg)))
    | refine Awp.seq ?_)
    all_goals repeat' (first | exact Lower.int (by first | rfl | (simp only [zeroSty, Bool.true_and, Bool.false_and, Bool.and_true, Bool.and_false, Bool.true_or, Bool.false_or, reduceIte, Bool.false_eq_true, *]; done) | (simp only [zeroSty, reduceIte, Bool.false_eq_true, *] <;> rfl) | (simp [zeroSty]; done) | (simp_all [zeroSty]; done) | omega) | exact Lower.str (by first | rfl | (simp only [zeroSty, Bool.true_and, Bool.false_and, Bool.and_true, Bool.and_false, Bool.true_or, Bool.false_or, reduceIte, Bool.false_eq_true, *]; done) | (simp only [zeroSty, reduceIte, Bool.false_eq_true, *] <;> rfl) | (simp [zeroSty]; done) | (simp_all [zeroSty]; done) | omega) | refine Lower.aggF ?_ | refine Lower.tupF ?_ | refine All2.cons ?_ ?_ | exact All2.nil)
  rw [if_neg (by simp)]
  have h2' := h2
  unfold fitR at h2'
  by_cases h3 : (128 : Int) ≤ l.length
  · rw [if_pos (by simpa using h3)]
    refine fn_pure Tryd.F17 (Nat.le_of_ble_eq_true rfl) ?_; unfold Tryd.ac17
    repeat' (first
    | (apply Awp.sreg; (case hn => (simp only [List.length_cons, List.length_nil, Nat.reduceAdd] <;> rfl)))
    | (refine st_nil ?_)
    | (apply st_a; (case hc => rfl); (case he => (simp only [go_sem, *] <;> rfl)); (case hu => (simp only [updL_nil, updL_cons] <;> rfl)); (case hp => first | trivial | assumption | omega | (simp; done) | (simp; omega) | (simp [*]; done) | ((repeat' (refine And.intro ?_ ?_)) <;> first | trivial | assumption | omega | (simp; done) | (simp; omega) | (simp [*]; done))))
    | (apply st_m; (case hc => rfl); (case hg => (simp only [go_sem, *] <;> rfl)); (case he => (intro hQz; (try simp only [wantB_t, wantB_f, Bool.and_eq_true, Bool.not_eq_true', Bool.not_true, Bool.not_false, and_true, true_and] at hQz); simp only [go_sem, *] <;> rfl)); (case hp => (intro hQz; (try simp only [wantB_t, wantB_f, Bool.and_eq_true, Bool.not_eq_true', Bool.or_eq_false_iff, decide_eq_true_eq, decide_eq_false_iff_not, beq_iff_eq, beq_eq_false_iff_ne, bne_iff_ne, bne_eq_false_iff_eq, Int.not_lt, Int.not_le, Int.ofNat_lt, Int.ofNat_le] at hQz); first | trivial | assumption | omega | (simp; done) | (simp; omega) | (simp [*]; done) | ((repeat' (refine And.intro ?_ ?_)) <;> first | trivial | assumption | omega | (simp; done) | (simp; omega) | (simp [*]; done)))))
    | (apply st_c; (case hc => (simp only [go_sem, *] <;> rfl)); (case hl => (simp only [go_sem, *] <;> rfl)); (case hn => (simp only [go_sem, *] <;> rfl)); (case hp => first | exact c0 | (have hXz := c0; simp only [go_sem, *] at hXz; exact hXz)))
    | (apply st_c; (case hc => (simp only [go_sem, *] <;> rfl)); (case hl => (simp only [go_sem, *] <;> rfl)); (case hn => (simp only [go_sem, *] <;> rfl)); (case hp => first | exact c1 | (have hXz := c1; simp only [go_sem, *] at hXz; exact hXz)))
    | (apply st_mc; (case hop => rfl); (case hg => (simp only [go_sem, *] <;> rfl)); (case hc => (intro hQz; (try simp only [wantB_t, wantB_f, Bool.and_eq_true, Bool.not_eq_true', Bool.not_true, Bool.not_false, and_true, true_and] at hQz); simp only [go_sem, *] <;> rfl)); (case hl => (intro hQz; (try simp only [wantB_t, wantB_f, Bool.and_eq_true, Bool.not_eq_true', Bool.not_true, Bool.not_false, and_true, true_and] at hQz); simp only [go_sem, *] <;> rfl)); (case hn => (intro hQz; (try simp only [wantB_t, wantB_f, Bool.and_eq_true, Bool.not_eq_true', Bool.not_true, Bool.not_false, and_true, true_and] at hQz); simp only [go_sem, *] <;> rfl)); (case hp => intro hQz; first | exact side_ok _ | (have hXz := side_ok _; simp only [go_sem, *] at hXz; exact hXz)))
    | (apply st_c; (case hc => (simp only [go_sem, *] <;> rfl)); (case hl => (simp only [go_sem, *] <;> rfl)); (case hn => (simp only [go_sem, *] <;> rfl)); (case hp => first | exact side_ok _ | (have hXz := side_ok _; simp only [go_sem, *] at hXz; exact hXz)))
    | (refine Awp.ret ?_; try simp only [go_sem, *])
    | (refine Awp.skip ?_; try simp only [go_sem, *])
    | refine Awp.block ?_
    | (apply Awp.cond; (case hc => (simp only [go_sem, *] <;> rfl)); all_goals (intro hg; (try simp only [Bool.not_true, Bool.not_false, reduceCtorEq] at hg)))
    | refine Awp.seq ?_)
    all_goals repeat' (first | exact Lower.int (by first | rfl | (simp only [zeroSty, Bool.true_and, Bool.false_and, Bool.and_true, Bool.and_false, Bool.true_or, Bool.false_or, reduceIte, Bool.false_eq_true, *]; done) | (simp only [zeroSty, reduceIte, Bool.false_eq_true, *] <;> rfl) | (simp [zeroSty]; done) | (simp_all [zeroSty]; done) | omega) | exact Lower.str (by first | rfl | (simp only [zeroSty, Bool.true_and, Bool.false_and, Bool.and_true, Bool.and_false, Bool.true_or, Bool.false_or, reduceIte, Bool.false_eq_true, *]; done) | (simp only [zeroSty, reduceIte, Bool.false_eq_true, *] <;> rfl) | (simp [zeroSty]; done) | (simp_all [zeroSty]; done) | omega) | refine Lower.aggF ?_ | refine Lower.tupF ?_ | refine All2.cons ?_ ?_ | exact All2.nil)
  rw [if_neg (by simpa using h3)]
  refine fn_pure Tryd.F17 (Nat.le_of_ble_eq_true rfl) ?_; unfold Tryd.ac17
  repeat' (first
    | (apply Awp.sreg; (case hn => (simp only [List.length_cons, List.length_nil, Nat.reduceAdd] <;> rfl)))
    | (refine st_nil ?_)
    | (apply st_a; (case hc => rfl); (case he => (simp only [go_sem, *] <;> rfl)); (case hu => (simp only [updL_nil, updL_cons] <;> rfl)); (case hp => first | trivial | assumption | omega | (simp; done) | (simp; omega) | (simp [*]; done) | ((repeat' (refine And.intro ?_ ?_)) <;> first | trivial | assumption | omega | (simp; done) | (simp; omega) | (simp [*]; done))))
    | (apply st_m; (case hc => rfl); (case hg => (simp only [go_sem, *] <;> rfl)); (case he => (intro hQz; (try simp only [wantB_t, wantB_f, Bool.and_eq_true, Bool.not_eq_true', Bool.not_true, Bool.not_false, and_true, true_and] at hQz); simp only [go_sem, *] <;> rfl)); (case hp => (intro hQz; (try simp only [wantB_t, wantB_f, Bool.and_eq_true, Bool.not_eq_true', Bool.or_eq_false_iff, decide_eq_true_eq, decide_eq_false_iff_not, beq_iff_eq, beq_eq_false_iff_ne, bne_iff_ne, bne_eq_false_iff_eq, Int.not_lt, Int.not_le, Int.ofNat_lt, Int.ofNat_le] at hQz); first | trivial | assumption | omega | (simp; done) | (simp; omega) | (simp [*]; done) | ((repeat' (refine And.intro ?_ ?_)) <;> first | trivial | assumption | omega | (simp; done) | (simp; omega) | (simp [*]; done)))))
    | (apply st_c; (case hc => (simp only [go_sem, *] <;> rfl)); (case hl => (simp only [go_sem, *] <;> rfl)); (case hn => (simp only [go_sem, *] <;> rfl)); (case hp => first | exact c0 | (have hXz := c0; simp only [go_sem, *] at hXz; exact hXz)))
    | (apply st_c; (case hc => (simp only [go_sem, *] <;> rfl)); (case hl => (simp only [go_sem, *] <;> rfl)); (case hn => (simp only [go_sem, *] <;> rfl)); (case hp => first | exact c1 | (have hXz := c1; simp only [go_sem, *] at hXz; exact hXz)))
    | (apply st_mc; (case hop => rfl); (case hg => (simp only [go_sem, *] <;> rfl)); (case hc => (intro hQz; (try simp only [wantB_t, wantB_f, Bool.and_eq_true, Bool.not_eq_true', Bool.not_true, Bool.not_false, and_true, true_and] at hQz); simp only [go_sem, *] <;> rfl)); (case hl => (intro hQz; (try simp only [wantB_t, wantB_f, Bool.and_eq_true, Bool.not_eq_true', Bool.not_true, Bool.not_false, and_true, true_and] at hQz); simp only [go_sem, *] <;> rfl)); (case hn => (intro hQz; (try simp only [wantB_t, wantB_f, Bool.and_eq_true, Bool.not_eq_true', Bool.not_true, Bool.not_false, and_true, true_and] at hQz); simp only [go_sem, *] <;> rfl)); (case hp => intro hQz; first | exact side_ok _ | (have hXz := side_ok _; simp only [go_sem, *] at hXz; exact hXz)))
    | (apply st_c; (case hc => (simp only [go_sem, *] <;> rfl)); (case hl => (simp only [go_sem, *] <;> rfl)); (case hn => (simp only [go_sem, *] <;> rfl)); (case hp => first | exact side_ok _ | (have hXz := side_ok _; simp only [go_sem, *] at hXz; exact hXz)))
    | (apply st_co; (case hc => (simp only [go_sem, *] <;> rfl)); (case hl => (simp only [go_sem, *] <;> rfl)); (case hn => (simp only [go_sem, *] <;> rfl)); (case hp => first | exact c2 | (have hXz := c2; simp only [go_sem, *] at hXz; exact hXz)))
    | (refine Awp.skip ?_; try simp only [go_sem, *])
    | refine Awp.block ?_
    | (apply Awp.cond; (case hc => (simp only [go_sem, *] <;> rfl)); all_goals (intro hg; (try simp only [Bool.not_true, Bool.not_false, reduceCtorEq] at hg)))
    | refine Awp.seq ?_)
  clear c0 c1 c2 h1 h2 h2' hC
  have hSl : (startsZ l x.a).length < 1000000 := by
    refine Nat.lt_of_le_of_lt (compact_len _) ?_
    rw [sortI_len]
    have := endsL_len l x.a
    omega
  obtain ⟨S, hS⟩ : ∃ S, startsZ l x.a = S := ⟨_, rfl⟩
  unfold fitS
  rw [hS] at hSl ⊢
  clear hS
  refine Awp.loop (fun q : Nat × (ByteArray × Int × Int) => q.1 ≤ S.length ∧ ∀ j, j < q.1 → bs.findSome? (tryB bs l x h (S.getD j 0)) = none) 200
    (fun q => mkS [(0, .sl (bys bs)), (1, .sl (stys l)), (3, .v (.int .i64 h)), (6, .bp 0 0), (8, .bp 1 0), (71, .own 2), (72, .v (.int .i64 S.length)), (73, .v (.int .i64 q.1))] [(0, .box (x.when q.2.1 q.2.2.1 q.2.2.2).cells), (1, .box boxZ), (2, .row (ints S) 1 3)]) (fun q => S.length - q.1) (0, (x.bay, x.a, x.b)) ⟨Nat.zero_le _, fun j hj => by simp at hj⟩ ?_ ?_
  · unfold boxZ Sty.when
    (apply Ghost.mk [(2, 53)] []; (case hdead => rfl); (case hinj => rfl); (case hV => (simp only [go_sem, *]) <;> (repeat' (first | refine And.intro ?_ ?_ | exact View.int (by first | rfl | omega | (simp; done) | (rw [wrap_i64] <;> (try simp only [Int.natCast_add]) <;> omega) | (simp [*]; done)) | exact .bp rfl (by decide) | exact .own rfl (by decide)))); (case hB => (simp only [go_sem, *]) <;> (repeat' (first | refine And.intro ?_ ?_ | exact ⟨_, rfl, BView.boxF rfl⟩ | exact ⟨_, rfl, .rowE (by first | rfl | omega | (simp; done) | (rw [wrap_i64] <;> (try simp only [Int.natCast_add]) <;> omega) | (simp [*]; done))⟩))))
  · intro ⟨j, ⟨n0, a0, b0⟩⟩ ⟨hj, hno⟩
    dsimp only at hj hno
    by_cases hlt : j < S.length
    · have hlt' : (j : Int) < S.length := by omega
      have hat := ints_at S j hlt
      obtain ⟨t, ht⟩ : ∃ t, S.getD j 0 = t := ⟨_, rfl⟩
      rw [ht] at hat
      unfold boxZ Sty.when
      repeat' (first
    | (apply Awp.sreg; (case hn => (simp only [List.length_cons, List.length_nil, Nat.reduceAdd] <;> rfl)))
    | (refine st_nil ?_)
    | (apply st_a; (case hc => rfl); (case he => (simp only [go_sem, *] <;> rfl)); (case hu => (simp only [updL_nil, updL_cons] <;> rfl)); (case hp => first | trivial | assumption | omega | (simp; done) | (simp; omega) | (simp [*]; done) | ((repeat' (refine And.intro ?_ ?_)) <;> first | trivial | assumption | omega | (simp; done) | (simp; omega) | (simp [*]; done))))
    | (refine Awp.skip ?_; try simp only [go_sem, *])
    | refine Awp.block ?_
    | (apply Awp.cond; (case hc => (simp only [go_sem, *] <;> rfl)); all_goals (intro hg; (try simp only [Bool.not_true, Bool.not_false, reduceCtorEq] at hg)))
    | refine Awp.seq ?_)
      refine Awp.loop (fun q : Nat × (ByteArray × Int × Int) => q.1 ≤ bs.length ∧ ∀ i, i < q.1 → tryB bs l x h t (bs.getD i zeroBy) = none) 300
        (fun q => mkS [(0, .sl (bys bs)), (1, .sl (stys l)), (3, .v (.int .i64 h)), (6, .bp 0 0), (8, .bp 1 0), (12, .v (.int .i64 t)), (71, .own 2), (72, .v (.int .i64 S.length)), (73, .v (.int .i64 j)), (77, .sl (bys bs)), (78, .v (.int .i64 bs.length)), (79, .v (.int .i64 q.1))] [(0, .box (x.when q.2.1 q.2.2.1 q.2.2.2).cells), (1, .box boxZ), (2, .row (ints S) 1 3)]) (fun q => bs.length - q.1) (0, (n0, a0, b0)) ⟨Nat.zero_le _, fun j hj => by simp at hj⟩ ?_ ?_
      · unfold boxZ Sty.when
        (apply Ghost.mk [] []; (case hdead => rfl); (case hinj => rfl); (case hV => (simp only [go_sem, *]) <;> (repeat' (first | refine And.intro ?_ ?_ | exact View.int (by first | rfl | omega | (simp; done) | (rw [wrap_i64] <;> (try simp only [Int.natCast_add]) <;> omega) | (simp [*]; done)) | exact .bp rfl (by decide) | exact .own rfl (by decide)))); (case hB => (simp only [go_sem, *]) <;> (repeat' (first | refine And.intro ?_ ?_ | exact ⟨_, rfl, BView.boxF rfl⟩ | exact ⟨_, rfl, .rowE (by first | rfl | omega | (simp; done) | (rw [wrap_i64] <;> (try simp only [Int.natCast_add]) <;> omega) | (simp [*]; done))⟩))))
      · intro ⟨k, ⟨n1, a1, b1⟩⟩ ⟨hk, hnk⟩
        dsimp only at hk hnk
        by_cases hlk : k < bs.length
        · have hlk' : (k : Int) < bs.length := by omega
          have hatk := bys_at bs k hlk
          have hz : ((bs.getD k zeroBy).cells).length = 3 := rfl
          obtain ⟨q, hq⟩ : ∃ q, bs.getD k zeroBy = q := ⟨_, rfl⟩
          rw [hq] at hatk hz
          have c3 := spot_ok bs l (x.when q.nm t (IntKind.i64.wrap (t + h))) (by omega) hl
          have hty : tryB bs l x h t q = if (spotE bs l (x.when q.nm t (IntKind.i64.wrap (t + h)))).2 then some (spotE bs l (x.when q.nm t (IntKind.i64.wrap (t + h)))).1 else none := rfl
          have hnx : tryB bs l x h t q = none → ∀ i, i < k + 1 → tryB bs l x h t (bs.getD i zeroBy) = none := fun hp => ltSucc hnk (by rw [hq]; exact hp)
          have hyes : ∀ {y : Sty}, tryB bs l x h t q = some y → S.findSome? (fun t => bs.findSome? (tryB bs l x h t)) = some y := fun {y} hp => by
            refine fs_hit (d := 0) hlt hno ?_
            rw [ht]
            exact fs_hit hlk hnk (by rw [hq]; exact hp)
          clear hno hnk hq ht
          generalize hsp : spotE bs l (x.when q.nm t (IntKind.i64.wrap (t + h))) = sp at *
          obtain ⟨y, f⟩ := sp
          dsimp only at hty c3
          clear hsp
          cases f
          · have hn2 := hnx (by rw [hty]; rfl)
            clear hnx hyes hty
            unfold boxZ Sty.when at *
            repeat' (first
    | (apply Awp.sreg; (case hn => (simp only [List.length_cons, List.length_nil, Nat.reduceAdd] <;> rfl)))
    | (refine st_nil ?_)
    | (apply st_a; (case hc => rfl); (case he => (simp only [go_sem, *] <;> rfl)); (case hu => (simp only [updL_nil, updL_cons] <;> rfl)); (case hp => first | trivial | assumption | omega | (simp; done) | (simp; omega) | (simp [*]; done) | ((repeat' (refine And.intro ?_ ?_)) <;> first | trivial | assumption | omega | (simp; done) | (simp; omega) | (simp [*]; done))))
    | (apply st_c; (case hc => (simp only [go_sem, *] <;> rfl)); (case hl => (simp only [go_sem, *] <;> rfl)); (case hn => (simp only [go_sem, *] <;> rfl)); (case hp => first | exact c3 | (have hXz := c3; simp only [go_sem, *] at hXz; exact hXz)))
    | (apply Awp.reg; (case hn => (simp only [List.length_cons, List.length_nil, Nat.reduceAdd] <;> rfl)))
    | (refine Awp.skip ?_; try simp only [go_sem, *])
    | refine Awp.block ?_
    | (apply Awp.cond; (case hc => (simp only [go_sem, *] <;> rfl)); all_goals (intro hg; (try simp only [Bool.not_true, Bool.not_false, reduceCtorEq] at hg)))
    | refine Awp.seq ?_)
            refine ⟨(k + 1, (q.nm, t, IntKind.i64.wrap (t + h))), ⟨by dsimp only; omega, hn2⟩, by dsimp only; omega, ?_⟩
            (apply Ghost.mk [] []; (case hdead => rfl); (case hinj => rfl); (case hV => (simp only [go_sem, *]) <;> (repeat' (first | refine And.intro ?_ ?_ | exact View.int (by first | rfl | omega | (simp; done) | (rw [wrap_i64] <;> (try simp only [Int.natCast_add]) <;> omega) | (simp [*]; done)) | exact .bp rfl (by decide) | exact .own rfl (by decide)))); (case hB => (simp only [go_sem, *]) <;> (repeat' (first | refine And.intro ?_ ?_ | exact ⟨_, rfl, BView.boxF rfl⟩ | exact ⟨_, rfl, .rowE (by first | rfl | omega | (simp; done) | (rw [wrap_i64] <;> (try simp only [Int.natCast_add]) <;> omega) | (simp [*]; done))⟩))))
          · have hy2 := hyes (y := y) (by rw [hty]; rfl)
            rw [hy2]
            clear hnx hyes hty hy2
            unfold boxZ Sty.when at *
            repeat' (first
    | (apply Awp.sreg; (case hn => (simp only [List.length_cons, List.length_nil, Nat.reduceAdd] <;> rfl)))
    | (refine st_nil ?_)
    | (apply st_a; (case hc => rfl); (case he => (simp only [go_sem, *] <;> rfl)); (case hu => (simp only [updL_nil, updL_cons] <;> rfl)); (case hp => first | trivial | assumption | omega | (simp; done) | (simp; omega) | (simp [*]; done) | ((repeat' (refine And.intro ?_ ?_)) <;> first | trivial | assumption | omega | (simp; done) | (simp; omega) | (simp [*]; done))))
    | (apply st_c; (case hc => (simp only [go_sem, *] <;> rfl)); (case hl => (simp only [go_sem, *] <;> rfl)); (case hn => (simp only [go_sem, *] <;> rfl)); (case hp => first | exact c3 | (have hXz := c3; simp only [go_sem, *] at hXz; exact hXz)))
    | (refine Awp.ret ?_; try simp only [go_sem, *])
    | (refine Awp.skip ?_; try simp only [go_sem, *])
    | refine Awp.block ?_
    | (apply Awp.cond; (case hc => (simp only [go_sem, *] <;> rfl)); all_goals (intro hg; (try simp only [Bool.not_true, Bool.not_false, reduceCtorEq] at hg)))
    | refine Awp.seq ?_)
            all_goals repeat' (first | exact Lower.int (by first | rfl | (simp only [true_and, Bool.true_and, Bool.false_and, Bool.and_true, Bool.and_false, Bool.true_or, Bool.false_or, reduceIte, Bool.false_eq_true, *]; done) | (simp only [true_and, reduceIte, Bool.false_eq_true, *] <;> rfl) | (simp [true_and]; done) | (simp_all [true_and]; done) | omega) | exact Lower.str (by first | rfl | (simp only [true_and, Bool.true_and, Bool.false_and, Bool.and_true, Bool.and_false, Bool.true_or, Bool.false_or, reduceIte, Bool.false_eq_true, *]; done) | (simp only [true_and, reduceIte, Bool.false_eq_true, *] <;> rfl) | (simp [true_and]; done) | (simp_all [true_and]; done) | omega) | refine Lower.aggF ?_ | refine Lower.tupF ?_ | refine All2.cons ?_ ?_ | exact All2.nil)
        · have hlk' : ¬ (k : Int) < bs.length := by omega
          have hn2 := ltSucc hno (by rw [ht]; exact fs_no (Nat.le_of_not_lt hlk) hnk)
          clear hno hnk hat
          unfold boxZ Sty.when
          repeat' (first
    | (apply Awp.sreg; (case hn => (simp only [List.length_cons, List.length_nil, Nat.reduceAdd] <;> rfl)))
    | (refine st_nil ?_)
    | (apply st_a; (case hc => rfl); (case he => (simp only [go_sem, *] <;> rfl)); (case hu => (simp only [updL_nil, updL_cons] <;> rfl)); (case hp => first | trivial | assumption | omega | (simp; done) | (simp; omega) | (simp [*]; done) | ((repeat' (refine And.intro ?_ ?_)) <;> first | trivial | assumption | omega | (simp; done) | (simp; omega) | (simp [*]; done))))
    | (apply Awp.reg; (case hn => (simp only [List.length_cons, List.length_nil, Nat.reduceAdd] <;> rfl)))
    | (refine Awp.exit ?_; try simp only [go_sem, *])
    | (apply Awp.cond; (case hc => (simp only [go_sem, *] <;> rfl)); all_goals (intro hg; (try simp only [Bool.not_true, Bool.not_false, reduceCtorEq] at hg)))
    | refine Awp.seq ?_)
          refine ⟨(j + 1, (n1, a1, b1)), ⟨by dsimp only; omega, hn2⟩, by dsimp only; omega, ?_⟩
          (apply Ghost.mk [] []; (case hdead => rfl); (case hinj => rfl); (case hV => (simp only [go_sem, *]) <;> (repeat' (first | refine And.intro ?_ ?_ | exact View.int (by first | rfl | omega | (simp; done) | (rw [wrap_i64] <;> (try simp only [Int.natCast_add]) <;> omega) | (simp [*]; done)) | exact .bp rfl (by decide) | exact .own rfl (by decide)))); (case hB => (simp only [go_sem, *]) <;> (repeat' (first | refine And.intro ?_ ?_ | exact ⟨_, rfl, BView.boxF rfl⟩ | exact ⟨_, rfl, .rowE (by first | rfl | omega | (simp; done) | (rw [wrap_i64] <;> (try simp only [Int.natCast_add]) <;> omega) | (simp [*]; done))⟩))))
    · have hlt' : ¬ (j : Int) < S.length := by omega
      have hn2 : S.findSome? (fun t => bs.findSome? (tryB bs l x h t)) = none := fs_no (d := 0) (Nat.le_of_not_lt hlt) hno
      rw [hn2]
      clear hno hn2
      unfold boxZ Sty.when
      repeat' (first
    | (apply Awp.sreg; (case hn => (simp only [List.length_cons, List.length_nil, Nat.reduceAdd] <;> rfl)))
    | (refine st_nil ?_)
    | (apply st_a; (case hc => rfl); (case he => (simp only [go_sem, *] <;> rfl)); (case hu => (simp only [updL_nil, updL_cons] <;> rfl)); (case hp => first | trivial | assumption | omega | (simp; done) | (simp; omega) | (simp [*]; done) | ((repeat' (refine And.intro ?_ ?_)) <;> first | trivial | assumption | omega | (simp; done) | (simp; omega) | (simp [*]; done))))
    | (refine Awp.ret ?_; try simp only [go_sem, *])
    | (refine Awp.exit ?_; try simp only [go_sem, *])
    | (apply Awp.cond; (case hc => (simp only [go_sem, *] <;> rfl)); all_goals (intro hg; (try simp only [Bool.not_true, Bool.not_false, reduceCtorEq] at hg)))
    | refine Awp.seq ?_)
      all_goals repeat' (first | exact Lower.int (by first | rfl | (simp only [zeroSty, Bool.true_and, Bool.false_and, Bool.and_true, Bool.and_false, Bool.true_or, Bool.false_or, reduceIte, Bool.false_eq_true, *]; done) | (simp only [zeroSty, reduceIte, Bool.false_eq_true, *] <;> rfl) | (simp [zeroSty]; done) | (simp_all [zeroSty]; done) | omega) | exact Lower.str (by first | rfl | (simp only [zeroSty, Bool.true_and, Bool.false_and, Bool.and_true, Bool.and_false, Bool.true_or, Bool.false_or, reduceIte, Bool.false_eq_true, *]; done) | (simp only [zeroSty, reduceIte, Bool.false_eq_true, *] <;> rfl) | (simp [zeroSty]; done) | (simp_all [zeroSty]; done) | omega) | refine Lower.aggF ?_ | refine Lower.tupF ?_ | refine All2.cons ?_ ?_ | exact All2.nil)
end Go.Proofs
end
section
set_option linter.unusedVariables false
set_option linter.unusedSimpArgs false
namespace Go.Proofs
open Go Go.Ab
set_option maxHeartbeats 4000000
set_option maxRecDepth 100000
set_option linter.unusedSimpArgs false
set_option linter.unusedVariables false
def areaB (q : Sty) (nm : ByteArray) (t : Int) : Bool := (q.bay.toList == nm.toList) && decide (q.a ≤ t) && decide (t < q.b) && sideB q.len && sideB q.wid
def areaF (nm : ByteArray) (t : Int) (n : Int) (q : Sty) : Int := if areaB q nm t then IntKind.i64.wrap (n + IntKind.i64.wrap (q.len * q.wid)) else n
def areaE (l : List Sty) (nm : ByteArray) (t : Int) : Int := l.foldl (areaF nm t) 0
theorem areaE_step (l : List Sty) (nm : ByteArray) (t : Int) (i : Nat) (h : i < l.length) : areaE (l.take (i + 1)) nm t = areaF nm t (areaE (l.take i) nm t) (l.getD i zeroSty) := by
  rw [take_snoc l zeroSty i h]
  unfold areaE
  rw [List.foldl_append]; rfl
def insI (x : Int) : List Int → List Int
  | [] => [x]
  | y :: l => if x ≤ y then x :: y :: l else y :: insI x l
def isortI : List Int → List Int
  | [] => []
  | x :: l => insI x (isortI l)
theorem insI_perm (x : Int) : ∀ l, (insI x l).Perm (x :: l)
  | [] => .refl _
  | y :: l => by
    unfold insI
    split
    · exact .refl _
    · exact ((insI_perm x l).cons y).trans (.swap x y l)
theorem isortI_perm : ∀ l, (isortI l).Perm l
  | [] => .refl _
  | x :: l => (insI_perm x _).trans ((isortI_perm l).cons x)
theorem insI_asc (x : Int) : ∀ l : List Int, l.Pairwise (· ≤ ·) → (insI x l).Pairwise (· ≤ ·)
  | [], _ => by simp [insI]
  | y :: l, h => by
    rw [List.pairwise_cons] at h
    unfold insI
    split
    · rename_i hxy
      refine List.pairwise_cons.2 ⟨fun z hz => ?_, List.pairwise_cons.2 h⟩
      rcases List.mem_cons.1 hz with rfl | hz
      · exact hxy
      · exact Int.le_trans hxy (h.1 z hz)
    · rename_i hxy
      refine List.pairwise_cons.2 ⟨fun z hz => ?_, insI_asc x l h.2⟩
      rcases List.mem_cons.1 ((insI_perm x l).mem_iff.1 hz) with rfl | hz
      · omega
      · exact h.1 z hz
theorem isortI_asc : ∀ l, (isortI l).Pairwise (· ≤ ·)
  | [] => .nil
  | x :: l => insI_asc x _ (isortI_asc l)
theorem asc_perm_eq : ∀ {l m : List Int}, l.Perm m → l.Pairwise (· ≤ ·) → m.Pairwise (· ≤ ·) → l = m
  | [], m, h, _, _ => by rw [List.nil_perm.1 h]
  | a :: l, [], h, _, _ => by simp at h
  | a :: l, b :: m, h, hl, hm => by
    have hl' := List.pairwise_cons.1 hl
    have hm' := List.pairwise_cons.1 hm
    have hab : a = b := by
      rcases List.mem_cons.1 (h.mem_iff.1 (List.mem_cons.2 (.inl rfl))) with e | e
      · exact e
      · rcases List.mem_cons.1 (h.mem_iff.2 (List.mem_cons.2 (.inl rfl))) with e' | e'
        · exact e'.symm
        · have := hl'.1 b e'; have := hm'.1 a e; omega
    subst hab
    rw [asc_perm_eq ((List.perm_cons a).1 h) hl'.2 hm'.2]
theorem sortI_isort (l : List Int) : sortI l = isortI l :=
  asc_perm_eq ((List.mergeSort_perm l _).trans (isortI_perm l).symm) (sortZ_asc l) (isortI_asc l)
def spotE' (bs : List By) (l : List Sty) (x : Sty) : Sty × Bool := match scanE (placeB bs l x) (Lib.compact (isortI (lowL l x))) (Lib.compact (isortI (leftL l x))) with
  | some (X, Y) => (x.at_ X Y, true)
  | none => (zeroSty, false)
theorem spotE_eq (bs : List By) (l : List Sty) (x : Sty) : spotE bs l x = spotE' bs l x := by
  unfold spotE spotE'
  rw [sortI_isort, sortI_isort]
  all_goals (generalize scanE (placeB bs l x) (Lib.compact (isortI (lowL l x))) (Lib.compact (isortI (leftL l x))) = o; cases o <;> rfl)
def tryB' (bs : List By) (l : List Sty) (x : Sty) (h t : Int) (q : By) : Option Sty := if (spotE' bs l (x.when q.nm t (IntKind.i64.wrap (t + h)))).2 then some (spotE' bs l (x.when q.nm t (IntKind.i64.wrap (t + h)))).1 else none
theorem tryB_eq (bs : List By) (l : List Sty) (x : Sty) (h t : Int) : tryB bs l x h t = tryB' bs l x h t := by
  funext q
  unfold tryB tryB'
  rw [spotE_eq]
def fitS' (bs : List By) (l : List Sty) (x : Sty) (h : Int) : Option Sty := (Lib.compact (isortI (endsL l x.a))).findSome? fun t => bs.findSome? (tryB' bs l x h t)
theorem fitS_eq (bs : List By) (l : List Sty) (x : Sty) (h : Int) : fitS bs l x h = fitS' bs l x h := by
  unfold fitS fitS' startsZ
  rw [sortI_isort]
  congr 1
  funext t
  rw [tryB_eq]
theorem fitE_some {bs : List By} {l : List Sty} {x y : Sty} {h : Int} (h1 : checkE bs l = 0) (h2 : idB x.item = true) (h3 : fitR x h = false) (h4 : decide ((128 : Int) ≤ l.length) = false) (h5 : fitS' bs l x h = some y) : fitE bs l x h = (y, 0) := by
  unfold fitE
  rw [h1, h2, h3, h4, fitS_eq, h5]; rfl
theorem fitE_none {bs : List By} {l : List Sty} {x : Sty} {h : Int} (h1 : checkE bs l = 0) (h2 : idB x.item = true) (h3 : fitR x h = false) (h4 : decide ((128 : Int) ≤ l.length) = false) (h5 : fitS' bs l x h = none) : fitE bs l x h = (zeroSty, 18) := by
  unfold fitE
  rw [h1, h2, h3, h4, fitS_eq, h5]; rfl
def exBays : List By := [⟨sB, 20, 10⟩]
def exL : List Sty := [mk 0 0 12 10 0 5]
theorem exFit1 : fitE exBays exL (mk 0 0 10 10 0 0) 3 = (mk 0 0 10 10 5 8, 0) := fitE_some (by kernel_rfl) (by kernel_rfl) (by kernel_rfl) (by kernel_rfl) (by kernel_rfl)
theorem exFit2 : fitE exBays exL (mk 0 0 8 4 0 0) 3 = (mk 12 0 8 4 0 3, 0) := fitE_some (by kernel_rfl) (by kernel_rfl) (by kernel_rfl) (by kernel_rfl) (by kernel_rfl)
theorem exFit3 : fitE exBays [] (mk 0 0 21 4 0 0) 3 = (zeroSty, 18) := fitE_none (by kernel_rfl) (by kernel_rfl) (by kernel_rfl) (by kernel_rfl) (by kernel_rfl)
theorem exC1 : checkE exBays exL = 0 := by kernel_rfl
theorem exC2 : checkE exBays [mk 0 0 12 10 0 5, mk 11 0 3 3 4 6] = 19 := by kernel_rfl
theorem exC3 : checkE exBays [mk 11 0 10 3 4 6] = 18 := by kernel_rfl
theorem exF1 : checkE exBays (exL ++ [mk 12 0 8 4 0 3]) = 0 := by kernel_rfl
theorem exF2 : checkE exBays (exL ++ [mk 11 0 3 3 4 6]) = 19 := by kernel_rfl
theorem exA1 : areaE exL sB 4 = 120 := by kernel_rfl
theorem exA2 : areaE exL sB 5 = 0 := by kernel_rfl
attribute [local irreducible] Awp aops aopsL Go.Ab.Pure PureOwn
theorem area_ok (l : List Sty) (nm : ByteArray) (t : Int) (hl : l.length < 900000) : Pure Tryd.prog 19 [.sl (stys l), .v (.string nm), .v (.int .i64 t)] (.v (.int .i64 (areaE l nm t))) := by
  refine fn_pure Tryd.F19 (Nat.le_of_ble_eq_true rfl) ?_; unfold Tryd.ac19
  repeat' (first
    | (apply Awp.sreg; (case hn => (simp only [List.length_cons, List.length_nil, Nat.reduceAdd] <;> rfl)))
    | (refine st_nil ?_)
    | (apply st_a; (case hc => rfl); (case he => (simp only [go_sem, *] <;> rfl)); (case hu => (simp only [updL_nil, updL_cons] <;> rfl)); (case hp => first | trivial | assumption | omega | (simp; done) | (simp; omega) | (simp [*]; done) | ((repeat' (refine And.intro ?_ ?_)) <;> first | trivial | assumption | omega | (simp; done) | (simp; omega) | (simp [*]; done))))
    | refine Awp.block ?_
    | refine Awp.seq ?_)
  refine Awp.loop (fun i : Nat => i ≤ l.length) 60 (fun i => mkS [(1, .v (.string nm)), (2, .v (.int .i64 t)), (6, .v (.int .i64 (areaE (l.take i) nm t))), (9, .sl (stys l)), (10, .v (.int .i64 l.length)), (11, .v (.int .i64 i))] []) (fun i => l.length - i) 0 (by omega) ?_ ?_
  · have e0 : areaE (l.take 0) nm t = 0 := rfl
    (apply Ghost.mk [] []; (case hdead => rfl); (case hinj => rfl); (case hV => (simp only [go_sem, *]) <;> (repeat' (first | refine And.intro ?_ ?_ | exact View.int (by first | rfl | omega | (simp; done) | (rw [wrap_i64] <;> (try simp only [Int.natCast_add]) <;> omega) | (simp [*]; done))))); (case hB => (simp only [go_sem, *]) <;> (repeat' (first | skip; done))))
  · intro i hi
    by_cases hlt : i < l.length
    · have hlt' : (i : Int) < l.length := by omega
      have hat := stys_at l i hlt
      have hz : ((l.getD i zeroSty).cells).length = 8 := rfl
      have hst := areaE_step l nm t i hlt
      unfold areaF at hst
      generalize l.getD i zeroSty = q at *
      cases hB : areaB q nm t
      · rw [hB] at hst
        simp only [Bool.false_eq_true, if_false] at hst
        have hB' := hB
        unfold areaB at hB'
        repeat' (first
    | (apply Awp.sreg; (case hn => (simp only [List.length_cons, List.length_nil, Nat.reduceAdd] <;> rfl)))
    | (refine st_nil ?_)
    | (apply st_a; (case hc => rfl); (case he => (simp only [go_sem, *] <;> rfl)); (case hu => (simp only [updL_nil, updL_cons] <;> rfl)); (case hp => first | trivial | assumption | omega | (simp; done) | (simp; omega) | (simp [*]; done) | ((repeat' (refine And.intro ?_ ?_)) <;> first | trivial | assumption | omega | (simp; done) | (simp; omega) | (simp [*]; done))))
    | (apply st_m; (case hc => rfl); (case hg => (simp only [go_sem, *] <;> rfl)); (case he => (intro hQz; (try simp only [wantB_t, wantB_f, Bool.and_eq_true, Bool.not_eq_true', Bool.not_true, Bool.not_false, and_true, true_and] at hQz); simp only [go_sem, *] <;> rfl)); (case hp => (intro hQz; (try simp only [wantB_t, wantB_f, Bool.and_eq_true, Bool.not_eq_true', Bool.or_eq_false_iff, decide_eq_true_eq, decide_eq_false_iff_not, beq_iff_eq, beq_eq_false_iff_ne, bne_iff_ne, bne_eq_false_iff_eq, Int.not_lt, Int.not_le, Int.ofNat_lt, Int.ofNat_le] at hQz); first | trivial | assumption | omega | (simp; done) | (simp; omega) | (simp [*]; done) | ((repeat' (refine And.intro ?_ ?_)) <;> first | trivial | assumption | omega | (simp; done) | (simp; omega) | (simp [*]; done)))))
    | (apply st_mc; (case hop => rfl); (case hg => (simp only [go_sem, *] <;> rfl)); (case hc => (intro hQz; (try simp only [wantB_t, wantB_f, Bool.and_eq_true, Bool.not_eq_true', Bool.not_true, Bool.not_false, and_true, true_and] at hQz); simp only [go_sem, *] <;> rfl)); (case hl => (intro hQz; (try simp only [wantB_t, wantB_f, Bool.and_eq_true, Bool.not_eq_true', Bool.not_true, Bool.not_false, and_true, true_and] at hQz); simp only [go_sem, *] <;> rfl)); (case hn => (intro hQz; (try simp only [wantB_t, wantB_f, Bool.and_eq_true, Bool.not_eq_true', Bool.not_true, Bool.not_false, and_true, true_and] at hQz); simp only [go_sem, *] <;> rfl)); (case hp => intro hQz; first | exact side_ok _ | (have hXz := side_ok _; simp only [go_sem, *] at hXz; exact hXz)))
    | (apply Awp.reg; (case hn => (simp only [List.length_cons, List.length_nil, Nat.reduceAdd] <;> rfl)))
    | (refine Awp.skip ?_; try simp only [go_sem, *])
    | refine Awp.block ?_
    | (apply Awp.cond; (case hc => (simp only [go_sem, *] <;> rfl)); all_goals (intro hg; (try simp only [Bool.not_true, Bool.not_false, reduceCtorEq] at hg)))
    | refine Awp.seq ?_)
        refine ⟨i + 1, by omega, by omega, ?_⟩
        (apply Ghost.mk [] []; (case hdead => rfl); (case hinj => rfl); (case hV => (simp only [go_sem, *]) <;> (repeat' (first | exact View.int (by first | rfl | omega | (simp; done) | (rw [wrap_i64] <;> (try simp only [Int.natCast_add]) <;> omega) | (simp [*]; done))))); (case hB => (simp only [go_sem, *]) <;> (repeat' (first | skip; done))))
      · rw [hB] at hst
        simp only [if_true] at hst
        have hB' := hB
        unfold areaB at hB'
        repeat' (first
    | (apply Awp.sreg; (case hn => (simp only [List.length_cons, List.length_nil, Nat.reduceAdd] <;> rfl)))
    | (refine st_nil ?_)
    | (apply st_a; (case hc => rfl); (case he => (simp only [go_sem, *] <;> rfl)); (case hu => (simp only [updL_nil, updL_cons] <;> rfl)); (case hp => first | trivial | assumption | omega | (simp; done) | (simp; omega) | (simp [*]; done) | ((repeat' (refine And.intro ?_ ?_)) <;> first | trivial | assumption | omega | (simp; done) | (simp; omega) | (simp [*]; done))))
    | (apply st_m; (case hc => rfl); (case hg => (simp only [go_sem, *] <;> rfl)); (case he => (intro hQz; (try simp only [wantB_t, wantB_f, Bool.and_eq_true, Bool.not_eq_true', Bool.not_true, Bool.not_false, and_true, true_and] at hQz); simp only [go_sem, *] <;> rfl)); (case hp => (intro hQz; (try simp only [wantB_t, wantB_f, Bool.and_eq_true, Bool.not_eq_true', Bool.or_eq_false_iff, decide_eq_true_eq, decide_eq_false_iff_not, beq_iff_eq, beq_eq_false_iff_ne, bne_iff_ne, bne_eq_false_iff_eq, Int.not_lt, Int.not_le, Int.ofNat_lt, Int.ofNat_le] at hQz); first | trivial | assumption | omega | (simp; done) | (simp; omega) | (simp [*]; done) | ((repeat' (refine And.intro ?_ ?_)) <;> first | trivial | assumption | omega | (simp; done) | (simp; omega) | (simp [*]; done)))))
    | (apply st_mc; (case hop => rfl); (case hg => (simp only [go_sem, *] <;> rfl)); (case hc => (intro hQz; (try simp only [wantB_t, wantB_f, Bool.and_eq_true, Bool.not_eq_true', Bool.not_true, Bool.not_false, and_true, true_and] at hQz); simp only [go_sem, *] <;> rfl)); (case hl => (intro hQz; (try simp only [wantB_t, wantB_f, Bool.and_eq_true, Bool.not_eq_true', Bool.not_true, Bool.not_false, and_true, true_and] at hQz); simp only [go_sem, *] <;> rfl)); (case hn => (intro hQz; (try simp only [wantB_t, wantB_f, Bool.and_eq_true, Bool.not_eq_true', Bool.not_true, Bool.not_false, and_true, true_and] at hQz); simp only [go_sem, *] <;> rfl)); (case hp => intro hQz; first | exact side_ok _ | (have hXz := side_ok _; simp only [go_sem, *] at hXz; exact hXz)))
    | (apply Awp.reg; (case hn => (simp only [List.length_cons, List.length_nil, Nat.reduceAdd] <;> rfl)))
    | (refine Awp.skip ?_; try simp only [go_sem, *])
    | refine Awp.block ?_
    | (apply Awp.cond; (case hc => (simp only [go_sem, *] <;> rfl)); all_goals (intro hg; (try simp only [Bool.not_true, Bool.not_false, reduceCtorEq] at hg)))
    | refine Awp.seq ?_)
        refine ⟨i + 1, by omega, by omega, ?_⟩
        (apply Ghost.mk [] []; (case hdead => rfl); (case hinj => rfl); (case hV => (simp only [go_sem, *]) <;> (repeat' (first | exact View.int (by first | rfl | omega | (simp; done) | (rw [wrap_i64] <;> (try simp only [Int.natCast_add]) <;> omega) | (simp [*]; done))))); (case hB => (simp only [go_sem, *]) <;> (repeat' (first | skip; done))))
    · have hlt' : ¬ (i : Int) < l.length := by omega
      have e1 : l.take i = l := List.take_of_length_le (by omega)
      repeat' (first
    | (apply Awp.sreg; (case hn => (simp only [List.length_cons, List.length_nil, Nat.reduceAdd] <;> rfl)))
    | (refine st_nil ?_)
    | (apply st_a; (case hc => rfl); (case he => (simp only [go_sem, *] <;> rfl)); (case hu => (simp only [updL_nil, updL_cons] <;> rfl)); (case hp => first | trivial | assumption | omega | (simp; done) | (simp; omega) | (simp [*]; done) | ((repeat' (refine And.intro ?_ ?_)) <;> first | trivial | assumption | omega | (simp; done) | (simp; omega) | (simp [*]; done))))
    | (refine Awp.ret ?_; try simp only [go_sem, *])
    | (refine Awp.exit ?_; try simp only [go_sem, *])
    | (apply Awp.cond; (case hc => (simp only [go_sem, *] <;> rfl)); all_goals (intro hg; (try simp only [Bool.not_true, Bool.not_false, reduceCtorEq] at hg)))
    | refine Awp.seq ?_)
      all_goals repeat' (first | exact Lower.int (by first | rfl | (simp only [true_and, Bool.true_and, Bool.false_and, Bool.and_true, Bool.and_false, Bool.true_or, Bool.false_or, reduceIte, Bool.false_eq_true, *]; done) | (simp only [true_and, reduceIte, Bool.false_eq_true, *] <;> rfl) | (simp [true_and]; done) | (simp_all [true_and]; done) | omega))
end Go.Proofs
end
section
set_option linter.unusedVariables false
set_option linter.unusedSimpArgs false
namespace Go.Proofs
open Go Go.Ab
set_option maxHeartbeats 8000000
set_option maxRecDepth 100000
set_option linter.unusedSimpArgs false
set_option linter.unusedVariables false
attribute [local irreducible] Awp aops aopsL Go.Ab.Pure PureOwn
theorem stys_nil : stys [] = [] := rfl
theorem bys_one1 : bys exBays = [[.v (.string ⟨⟨[66]⟩⟩), .v (.int .i64 20), .v (.int .i64 10)]] := rfl
theorem stys_one1 (a : Sty) : stys [a] = [a.cells] := rfl
theorem stys_two (a b : Sty) : stys [a, b] = [a.cells, b.cells] := rfl
theorem awake_ok : Pure Tryd.prog 10 [] (.v (.bool true)) := by
  have c1 := fit_ok exBays exL (mk 0 0 10 10 0 0) 3 (by decide) (by decide)
  have c2 := fit_ok exBays exL (mk 0 0 8 4 0 0) 3 (by decide) (by decide)
  have c3 := fit_ok exBays [] (mk 0 0 21 4 0 0) 3 (by decide) (by decide)
  have c4 := check_ok exBays exL (by decide) (by decide)
  have c5 := check_ok exBays [mk 0 0 12 10 0 5, mk 11 0 3 3 4 6] (by decide) (by decide)
  have c6 := check_ok exBays [mk 11 0 10 3 4 6] (by decide) (by decide)
  have c7 := free_ok exBays exL (mk 12 0 8 4 0 3) (by decide) (by decide)
  have c8 := free_ok exBays exL (mk 11 0 3 3 4 6) (by decide) (by decide)
  have c9 := area_ok exL sB 4 (by decide)
  have c10 := area_ok exL sB 5 (by decide)
  rw [exFit1] at c1; rw [exFit2] at c2; rw [exFit3] at c3; rw [exC1] at c4; rw [exC2] at c5; rw [exC3] at c6; rw [exF1] at c7; rw [exF2] at c8; rw [exA1] at c9; rw [exA2] at c10
  have d7 : ((0 : Int) == 0) = true := rfl
  have d8 : ((19 : Int) == 0) = false := rfl
  rw [d7] at c7; rw [d8] at c8
  clear d7 d8
  unfold exL at *
  rw [bys_one1] at *
  simp only [stys_one1, stys_two, stys_nil] at *
  unfold mk sB sI zeroSty at *
  simp only [Sty.av, Sty.cells] at *
  refine fn_pure Tryd.F10 (Nat.le_of_ble_eq_true rfl) ?_; unfold Tryd.ac10
  repeat' (first
    | (apply Awp.sreg; (case hn => (simp only [List.length_cons, List.length_nil, Nat.reduceAdd] <;> rfl)))
    | (apply Awp.sdraw; (case hn => (simp only [List.length_cons, List.length_nil, Nat.reduceAdd] <;> rfl)))
    | (refine st_nil ?_)
    | (apply st_a; (case hc => rfl); (case he => (simp only [go_sem, *] <;> rfl)); (case hu => (simp only [updL_nil, updL_cons] <;> rfl)); (case hp => first | trivial | assumption | omega | (simp; done) | (simp; omega) | (simp [*]; done) | ((repeat' (refine And.intro ?_ ?_)) <;> first | trivial | assumption | omega | (simp; done) | (simp; omega) | (simp [*]; done))))
    | (apply st_cd; (case hc => (simp only [go_sem, *] <;> rfl)); (case hl => (simp only [go_sem, *] <;> rfl)); (case hn => (simp only [go_sem, *] <;> rfl)); (case hp => first | exact c1 | (have hXz := c1; simp only [go_sem, *] at hXz; exact hXz)); (case hd => first | exact .v _ | exact .any | exact .nils | (repeat' (first | exact Dry.v _ | exact Dry.any | exact Dry.nils | exact Dry.slE | refine Dry.agg ?_ | refine Dry.tup ?_ | (refine List.forall_mem_cons.2 (And.intro ?_ ?_)) | (intro cQ hQ; cases hQ; done)))); (case hm => first | decide | (simp; done)))
    | (apply st_cd; (case hc => (simp only [go_sem, *] <;> rfl)); (case hl => (simp only [go_sem, *] <;> rfl)); (case hn => (simp only [go_sem, *] <;> rfl)); (case hp => first | exact c2 | (have hXz := c2; simp only [go_sem, *] at hXz; exact hXz)); (case hd => first | exact .v _ | exact .any | exact .nils | (repeat' (first | exact Dry.v _ | exact Dry.any | exact Dry.nils | exact Dry.slE | refine Dry.agg ?_ | refine Dry.tup ?_ | (refine List.forall_mem_cons.2 (And.intro ?_ ?_)) | (intro cQ hQ; cases hQ; done)))); (case hm => first | decide | (simp; done)))
    | (apply st_cd; (case hc => (simp only [go_sem, *] <;> rfl)); (case hl => (simp only [go_sem, *] <;> rfl)); (case hn => (simp only [go_sem, *] <;> rfl)); (case hp => first | exact c3 | (have hXz := c3; simp only [go_sem, *] at hXz; exact hXz)); (case hd => first | exact .v _ | exact .any | exact .nils | (repeat' (first | exact Dry.v _ | exact Dry.any | exact Dry.nils | exact Dry.slE | refine Dry.agg ?_ | refine Dry.tup ?_ | (refine List.forall_mem_cons.2 (And.intro ?_ ?_)) | (intro cQ hQ; cases hQ; done)))); (case hm => first | decide | (simp; done)))
    | (apply st_c; (case hc => (simp only [go_sem, *] <;> rfl)); (case hl => (simp only [go_sem, *] <;> rfl)); (case hn => (simp only [go_sem, *] <;> rfl)); (case hp => first | exact mk_ok _ _ _ _ _ _ | (have hXz := mk_ok _ _ _ _ _ _; simp only [go_sem, *] at hXz; exact hXz)))
    | (refine Awp.ret ?_; try simp only [go_sem, *])
    | (refine Awp.skip ?_; try simp only [go_sem, *])
    | (apply Awp.cond; (case hc => (simp only [go_sem, *] <;> rfl)); all_goals (intro hg; (try simp only [Bool.not_true, Bool.not_false, reduceCtorEq] at hg)))
    | refine Awp.seq ?_
    | (apply sl_a; (case hc => rfl); (case he => (simp only [go_sem, *] <;> rfl)); (case hu => (simp only [updL_nil, updL_cons] <;> rfl)); (case hl => (simp only [List.map_cons, List.map_nil] <;> rfl)); (case hp => first | trivial | assumption | omega | (simp; done) | (simp; omega) | (simp [*]; done) | ((repeat' (refine And.intro ?_ ?_)) <;> first | trivial | assumption | omega | (simp; done) | (simp; omega) | (simp [*]; done))))
    | (apply sl_gn; (case hv => (simp only [go_sem, *] <;> rfl)); (case hbw => rfl))
    | (apply sl_ga; (case hb => rfl); (case hv => (simp only [go_sem, *] <;> rfl)); (case he => (simp only [go_sem, *] <;> rfl)); (case hu => (simp only [updL_nil, updL_cons] <;> rfl)); (case hl => (simp only [List.map_cons, List.map_nil] <;> rfl)); (case hp => first | trivial | assumption | omega | (simp; done) | (simp; omega) | (simp [*]; done) | ((repeat' (refine And.intro ?_ ?_)) <;> first | trivial | assumption | omega | (simp; done) | (simp; omega) | (simp [*]; done))))
    | (apply sl_c; (case hc => (simp only [go_sem, *] <;> rfl)); (case hl => (simp only [go_sem, *] <;> rfl)); (case hn => (simp only [go_sem, *] <;> rfl)); (case hp => first | exact c4 | (have hXz := c4; simp only [go_sem, *] at hXz; exact hXz)); (case hd => first | exact .inl rfl | exact .inr (.v _) | exact .inr .any | exact .inr .nils); (case hm => first | decide | (simp; done)))
    | (apply sl_cg; (case hop => rfl); (case hv => (simp only [go_sem, *] <;> rfl)); (case hc => (simp only [go_sem, *] <;> rfl)); (case hl => (simp only [go_sem, *] <;> rfl)); (case hn => (simp only [go_sem, *] <;> rfl)); (case hp => first | exact c5 | (have hXz := c5; simp only [go_sem, *] at hXz; exact hXz)); (case hd => first | exact .inl rfl | exact .inr (.v _) | exact .inr .any | exact .inr .nils); (case hm => first | decide | (simp; done)))
    | (apply sl_cg; (case hop => rfl); (case hv => (simp only [go_sem, *] <;> rfl)); (case hc => (simp only [go_sem, *] <;> rfl)); (case hl => (simp only [go_sem, *] <;> rfl)); (case hn => (simp only [go_sem, *] <;> rfl)); (case hp => first | exact c6 | (have hXz := c6; simp only [go_sem, *] at hXz; exact hXz)); (case hd => first | exact .inl rfl | exact .inr (.v _) | exact .inr .any | exact .inr .nils); (case hm => first | decide | (simp; done)))
    | (apply sl_cg; (case hop => rfl); (case hv => (simp only [go_sem, *] <;> rfl)); (case hc => (simp only [go_sem, *] <;> rfl)); (case hl => (simp only [go_sem, *] <;> rfl)); (case hn => (simp only [go_sem, *] <;> rfl)); (case hp => first | exact c7 | (have hXz := c7; simp only [go_sem, *] at hXz; exact hXz)); (case hd => first | exact .inl rfl | exact .inr (.v _) | exact .inr .any | exact .inr .nils); (case hm => first | decide | (simp; done)))
    | (apply sl_cg; (case hop => rfl); (case hv => (simp only [go_sem, *] <;> rfl)); (case hc => (simp only [go_sem, *] <;> rfl)); (case hl => (simp only [go_sem, *] <;> rfl)); (case hn => (simp only [go_sem, *] <;> rfl)); (case hp => first | exact c8 | (have hXz := c8; simp only [go_sem, *] at hXz; exact hXz)); (case hd => first | exact .inl rfl | exact .inr (.v _) | exact .inr .any | exact .inr .nils); (case hm => first | decide | (simp; done)))
    | (apply sl_cg; (case hop => rfl); (case hv => (simp only [go_sem, *] <;> rfl)); (case hc => (simp only [go_sem, *] <;> rfl)); (case hl => (simp only [go_sem, *] <;> rfl)); (case hn => (simp only [go_sem, *] <;> rfl)); (case hp => first | exact c9 | (have hXz := c9; simp only [go_sem, *] at hXz; exact hXz)); (case hd => first | exact .inl rfl | exact .inr (.v _) | exact .inr .any | exact .inr .nils); (case hm => first | decide | (simp; done)))
    | (apply sl_cg; (case hop => rfl); (case hv => (simp only [go_sem, *] <;> rfl)); (case hc => (simp only [go_sem, *] <;> rfl)); (case hl => (simp only [go_sem, *] <;> rfl)); (case hn => (simp only [go_sem, *] <;> rfl)); (case hp => first | exact c10 | (have hXz := c10; simp only [go_sem, *] at hXz; exact hXz)); (case hd => first | exact .inl rfl | exact .inr (.v _) | exact .inr .any | exact .inr .nils); (case hm => first | decide | (simp; done)))
    | (apply sl_c; (case hc => (simp only [go_sem, *] <;> rfl)); (case hl => (simp only [go_sem, *] <;> rfl)); (case hn => (simp only [go_sem, *] <;> rfl)); (case hp => first | exact mk_ok _ _ _ _ _ _ | (have hXz := mk_ok _ _ _ _ _ _; simp only [go_sem, *] at hXz; exact hXz)); (case hd => first | exact .inl rfl | exact .inr (.v _) | exact .inr .any | exact .inr .nils); (case hm => first | decide | (simp; done)))
    | (apply sl_cg; (case hop => rfl); (case hv => (simp only [go_sem, *] <;> rfl)); (case hc => (simp only [go_sem, *] <;> rfl)); (case hl => (simp only [go_sem, *] <;> rfl)); (case hn => (simp only [go_sem, *] <;> rfl)); (case hp => first | exact mk_ok _ _ _ _ _ _ | (have hXz := mk_ok _ _ _ _ _ _; simp only [go_sem, *] at hXz; exact hXz)); (case hd => first | exact .inl rfl | exact .inr (.v _) | exact .inr .any | exact .inr .nils); (case hm => first | decide | (simp; done)))
    | (apply sl_case; (case hv => (simp only [go_sem, *] <;> rfl)); all_goals (intro hg; (try simp only [Bool.not_true, Bool.not_false, reduceCtorEq] at hg)))
    | (refine sl_nil (And.intro (by first | exact drawOk_of (by decide +kernel) | (simp only [List.map_cons, List.map_nil]; exact drawOk_of (by decide +kernel)) | decide) ?_)))
  all_goals first | exact Lower.bool rfl | (exfalso; exact absurd hg (by decide +kernel)) | (exfalso; rename_i hz; exact absurd hz (by decide +kernel))
theorem few_one (x : Sty) : Pure Tryd.prog 9 [.sl [], .sl [x.cells]] (.v (.bool (fewB [] [x]))) := few_ok [] [x]
theorem few_size {bs : List By} {l : List Sty} (h : fewB bs l = true) : bs.length ≤ 12 ∧ l.length ≤ 60 ∧ ∀ i, i < l.length → (l.getD i zeroSty).item.size ≤ 100 := by
  unfold fewB noneBig at h
  simp only [Bool.and_eq_true, decide_eq_true_eq, List.all_eq_true, List.mem_range] at h
  obtain ⟨⟨⟨_, h2⟩, h3⟩, h4⟩ := h
  refine ⟨by omega, by omega, fun i hi => ?_⟩
  have := h2 i (by omega)
  simp [bigSty] at this
  rw [List.getD_eq_getElem?_getD]
  omega
structure Pl where
  bays : List By
  stays : List Sty
def Pl.av (p : Pl) : AV := .agg [.sl (bys p.bays), .sl (stys p.stays)]
attribute [go_sem] Pl.av
theorem checks_ok (p : Pl) (x : Sty) : Pure Tryd.prog 3 [p.av, x.av] (.v (.bool true)) := by
  have c0 := few_ok p.bays p.stays
  have c1 := few_one x
  cases h1 : fewB p.bays p.stays
  · rw [h1] at c0
    refine fn_pure Tryd.F3 (Nat.le_of_ble_eq_true rfl) ?_; unfold Tryd.ac3
    repeat' (first
    | (apply Awp.sreg; (case hn => (simp only [List.length_cons, List.length_nil, Nat.reduceAdd] <;> rfl)))
    | (refine st_nil ?_)
    | (apply st_a; (case hc => rfl); (case he => (simp only [go_sem, *] <;> rfl)); (case hu => (simp only [updL_nil, updL_cons] <;> rfl)); (case hp => first | trivial | assumption | omega | (simp; done) | (simp; omega) | (simp [*]; done) | ((repeat' (refine And.intro ?_ ?_)) <;> first | trivial | assumption | omega | (simp; done) | (simp; omega) | (simp [*]; done))))
    | (apply st_m; (case hc => rfl); (case hg => (simp only [go_sem, *] <;> rfl)); (case he => (intro hQz; (try simp only [wantB_t, wantB_f, Bool.and_eq_true, Bool.not_eq_true', Bool.not_true, Bool.not_false, and_true, true_and] at hQz); simp only [go_sem, *] <;> rfl)); (case hp => (intro hQz; (try simp only [wantB_t, wantB_f, Bool.and_eq_true, Bool.not_eq_true', Bool.or_eq_false_iff, decide_eq_true_eq, decide_eq_false_iff_not, beq_iff_eq, beq_eq_false_iff_ne, bne_iff_ne, bne_eq_false_iff_eq, Int.not_lt, Int.not_le, Int.ofNat_lt, Int.ofNat_le] at hQz); first | trivial | assumption | omega | (simp; done) | (simp; omega) | (simp [*]; done) | ((repeat' (refine And.intro ?_ ?_)) <;> first | trivial | assumption | omega | (simp; done) | (simp; omega) | (simp [*]; done)))))
    | (apply st_c; (case hc => (simp only [go_sem, *] <;> rfl)); (case hl => (simp only [go_sem, *] <;> rfl)); (case hn => (simp only [go_sem, *] <;> rfl)); (case hp => first | exact c0 | (have hXz := c0; simp only [go_sem, *] at hXz; exact hXz)))
    | (apply st_c; (case hc => (simp only [go_sem, *] <;> rfl)); (case hl => (simp only [go_sem, *] <;> rfl)); (case hn => (simp only [go_sem, *] <;> rfl)); (case hp => first | exact awake_ok | (have hXz := awake_ok; simp only [go_sem, *] at hXz; exact hXz)))
    | (apply st_g; (case hv => (simp only [go_sem, *] <;> rfl)); all_goals (intro hg; (try simp only [Bool.not_true, Bool.not_false, reduceCtorEq] at hg)))
    | (refine Awp.ret ?_; try simp only [go_sem, *])
    | (apply Awp.cond; (case hc => (simp only [go_sem, *] <;> rfl)); all_goals (intro hg; (try simp only [Bool.not_true, Bool.not_false, reduceCtorEq] at hg)))
    | refine Awp.seq ?_)
    all_goals repeat' (first | exact Lower.bool (by first | rfl | (simp only [true_and, Bool.true_and, Bool.false_and, Bool.and_true, Bool.and_false, Bool.true_or, Bool.false_or, reduceIte, Bool.false_eq_true, *]; done) | (simp only [true_and, reduceIte, Bool.false_eq_true, *] <;> rfl) | (simp [true_and]; done) | (simp_all [true_and]; done) | omega))
  cases h2 : fewB [] [x]
  · rw [h1] at c0
    rw [h2] at c1
    refine fn_pure Tryd.F3 (Nat.le_of_ble_eq_true rfl) ?_; unfold Tryd.ac3
    repeat' (first
    | (apply Awp.sreg; (case hn => (simp only [List.length_cons, List.length_nil, Nat.reduceAdd] <;> rfl)))
    | (refine st_nil ?_)
    | (apply st_a; (case hc => rfl); (case he => (simp only [go_sem, *] <;> rfl)); (case hu => (simp only [updL_nil, updL_cons] <;> rfl)); (case hp => first | trivial | assumption | omega | (simp; done) | (simp; omega) | (simp [*]; done) | ((repeat' (refine And.intro ?_ ?_)) <;> first | trivial | assumption | omega | (simp; done) | (simp; omega) | (simp [*]; done))))
    | (apply st_m; (case hc => rfl); (case hg => (simp only [go_sem, *] <;> rfl)); (case he => (intro hQz; (try simp only [wantB_t, wantB_f, Bool.and_eq_true, Bool.not_eq_true', Bool.not_true, Bool.not_false, and_true, true_and] at hQz); simp only [go_sem, *] <;> rfl)); (case hp => (intro hQz; (try simp only [wantB_t, wantB_f, Bool.and_eq_true, Bool.not_eq_true', Bool.or_eq_false_iff, decide_eq_true_eq, decide_eq_false_iff_not, beq_iff_eq, beq_eq_false_iff_ne, bne_iff_ne, bne_eq_false_iff_eq, Int.not_lt, Int.not_le, Int.ofNat_lt, Int.ofNat_le] at hQz); first | trivial | assumption | omega | (simp; done) | (simp; omega) | (simp [*]; done) | ((repeat' (refine And.intro ?_ ?_)) <;> first | trivial | assumption | omega | (simp; done) | (simp; omega) | (simp [*]; done)))))
    | (apply st_c; (case hc => (simp only [go_sem, *] <;> rfl)); (case hl => (simp only [go_sem, *] <;> rfl)); (case hn => (simp only [go_sem, *] <;> rfl)); (case hp => first | exact c0 | (have hXz := c0; simp only [go_sem, *] at hXz; exact hXz)))
    | (apply st_cd; (case hc => (simp only [go_sem, *] <;> rfl)); (case hl => (simp only [go_sem, *] <;> rfl)); (case hn => (simp only [go_sem, *] <;> rfl)); (case hp => first | exact c1 | (have hXz := c1; simp only [go_sem, *] at hXz; exact hXz)); (case hd => first | exact .v _ | exact .any | exact .nils | (repeat' (first | exact Dry.v _ | exact Dry.any | exact Dry.nils | exact Dry.slE | refine Dry.agg ?_ | refine Dry.tup ?_ | (refine List.forall_mem_cons.2 (And.intro ?_ ?_)) | (intro cQ hQ; cases hQ; done)))); (case hm => first | decide | (simp; done)))
    | (apply st_c; (case hc => (simp only [go_sem, *] <;> rfl)); (case hl => (simp only [go_sem, *] <;> rfl)); (case hn => (simp only [go_sem, *] <;> rfl)); (case hp => first | exact awake_ok | (have hXz := awake_ok; simp only [go_sem, *] at hXz; exact hXz)))
    | (apply st_g; (case hv => (simp only [go_sem, *] <;> rfl)); all_goals (intro hg; (try simp only [Bool.not_true, Bool.not_false, reduceCtorEq] at hg)))
    | (refine Awp.ret ?_; try simp only [go_sem, *])
    | (apply Awp.cond; (case hc => (simp only [go_sem, *] <;> rfl)); all_goals (intro hg; (try simp only [Bool.not_true, Bool.not_false, reduceCtorEq] at hg)))
    | refine Awp.seq ?_)
    all_goals repeat' (first | exact Lower.bool (by first | rfl | (simp only [true_and, Bool.true_and, Bool.false_and, Bool.and_true, Bool.and_false, Bool.true_or, Bool.false_or, reduceIte, Bool.false_eq_true, *]; done) | (simp only [true_and, reduceIte, Bool.false_eq_true, *] <;> rfl) | (simp [true_and]; done) | (simp_all [true_and]; done) | omega))
  obtain ⟨f1, f2, f3⟩ := few_size h1
  obtain ⟨_, _, f4⟩ := few_size h2
  have f5 := f4 0 (by simp)
  have c2 := check_ok p.bays p.stays (by omega) (by omega)
  have c3 := rcheck_ok p.bays p.stays (by omega) (by omega) (fun i hi => by have := f3 i hi; omega)
  have c4 := free_ok p.bays p.stays x (by omega) (by omega)
  have c5 := rfree_ok p.bays p.stays x (by omega) (by omega) (fun i hi => by
    by_cases hlt : i < p.stays.length
    · have := f3 i hlt
      rw [List.getD_eq_getElem?_getD, List.getElem?_append_left hlt, ← List.getD_eq_getElem?_getD]
      omega
    · have e : i = p.stays.length := by simp at hi; omega
      subst e
      rw [List.getD_eq_getElem?_getD, List.getElem?_append_right (Nat.le_refl _)]
      have f6 : x.item.size ≤ 100 := f5
      simp
      omega)
  rw [h1] at c0
  rw [h2] at c1
  clear h1 h2 f1 f2 f3 f4 f5
  have s1 : (checkE p.bays p.stays == checkE p.bays p.stays) = true := beq_self_eq_true _
  have s2 : ((checkE p.bays (p.stays ++ [x]) == 0) == (checkE p.bays (p.stays ++ [x]) == 0)) = true := beq_self_eq_true _
  have s3 : (false ^^ true) = true := rfl
  refine fn_pure Tryd.F3 (Nat.le_of_ble_eq_true rfl) ?_; unfold Tryd.ac3
  repeat' (first
    | (apply Awp.sreg; (case hn => (simp only [List.length_cons, List.length_nil, Nat.reduceAdd] <;> rfl)))
    | (apply Awp.sdraw; (case hn => (simp only [List.length_cons, List.length_nil, Nat.reduceAdd] <;> rfl)))
    | (refine st_nil ?_)
    | (apply st_a; (case hc => rfl); (case he => (simp only [go_sem, *] <;> rfl)); (case hu => (simp only [updL_nil, updL_cons] <;> rfl)); (case hp => first | trivial | assumption | omega | (simp; done) | (simp; omega) | (simp [*]; done) | ((repeat' (refine And.intro ?_ ?_)) <;> first | trivial | assumption | omega | (simp; done) | (simp; omega) | (simp [*]; done))))
    | (apply st_m; (case hc => rfl); (case hg => (simp only [go_sem, *] <;> rfl)); (case he => (intro hQz; (try simp only [wantB_t, wantB_f, Bool.and_eq_true, Bool.not_eq_true', Bool.not_true, Bool.not_false, and_true, true_and] at hQz); simp only [go_sem, *] <;> rfl)); (case hp => (intro hQz; (try simp only [wantB_t, wantB_f, Bool.and_eq_true, Bool.not_eq_true', Bool.or_eq_false_iff, decide_eq_true_eq, decide_eq_false_iff_not, beq_iff_eq, beq_eq_false_iff_ne, bne_iff_ne, bne_eq_false_iff_eq, Int.not_lt, Int.not_le, Int.ofNat_lt, Int.ofNat_le] at hQz); first | trivial | assumption | omega | (simp; done) | (simp; omega) | (simp [*]; done) | ((repeat' (refine And.intro ?_ ?_)) <;> first | trivial | assumption | omega | (simp; done) | (simp; omega) | (simp [*]; done)))))
    | (apply st_c; (case hc => (simp only [go_sem, *] <;> rfl)); (case hl => (simp only [go_sem, *] <;> rfl)); (case hn => (simp only [go_sem, *] <;> rfl)); (case hp => first | exact c0 | (have hXz := c0; simp only [go_sem, *] at hXz; exact hXz)))
    | (apply st_cd; (case hc => (simp only [go_sem, *] <;> rfl)); (case hl => (simp only [go_sem, *] <;> rfl)); (case hn => (simp only [go_sem, *] <;> rfl)); (case hp => first | exact c1 | (have hXz := c1; simp only [go_sem, *] at hXz; exact hXz)); (case hd => first | exact .v _ | exact .any | exact .nils | (repeat' (first | exact Dry.v _ | exact Dry.any | exact Dry.nils | exact Dry.slE | refine Dry.agg ?_ | refine Dry.tup ?_ | (refine List.forall_mem_cons.2 (And.intro ?_ ?_)) | (intro cQ hQ; cases hQ; done)))); (case hm => first | decide | (simp; done)))
    | (apply st_g; (case hv => (simp only [go_sem, *] <;> rfl)); all_goals (intro hg; (try simp only [Bool.not_true, Bool.not_false, reduceCtorEq] at hg)))
    | (refine Awp.ret ?_; try simp only [go_sem, *])
    | (refine Awp.skip ?_; try simp only [go_sem, *])
    | (apply Awp.cond; (case hc => (simp only [go_sem, *] <;> rfl)); all_goals (intro hg; (try simp only [Bool.not_true, Bool.not_false, reduceCtorEq] at hg)))
    | refine Awp.seq ?_
    | (apply sl_a; (case hc => rfl); (case he => (simp only [go_sem, *] <;> rfl)); (case hu => (simp only [updL_nil, updL_cons] <;> rfl)); (case hl => (simp only [List.map_cons, List.map_nil] <;> rfl)); (case hp => first | trivial | assumption | omega | (simp; done) | (simp; omega) | (simp [*]; done) | ((repeat' (refine And.intro ?_ ?_)) <;> first | trivial | assumption | omega | (simp; done) | (simp; omega) | (simp [*]; done))))
    | (apply sl_ga; (case hb => rfl); (case hv => (simp only [go_sem, *] <;> rfl)); (case he => (simp only [go_sem, *] <;> rfl)); (case hu => (simp only [updL_nil, updL_cons] <;> rfl)); (case hl => (simp only [List.map_cons, List.map_nil] <;> rfl)); (case hp => first | trivial | assumption | omega | (simp; done) | (simp; omega) | (simp [*]; done) | ((repeat' (refine And.intro ?_ ?_)) <;> first | trivial | assumption | omega | (simp; done) | (simp; omega) | (simp [*]; done))))
    | (apply sl_c; (case hc => (simp only [go_sem, *] <;> rfl)); (case hl => (simp only [go_sem, *] <;> rfl)); (case hn => (simp only [go_sem, *] <;> rfl)); (case hp => first | exact c2 | (have hXz := c2; simp only [go_sem, *] at hXz; exact hXz)); (case hd => first | exact .inl rfl | exact .inr (.v _) | exact .inr .any | exact .inr .nils); (case hm => first | decide | (simp; done)))
    | (apply sl_c; (case hc => (simp only [go_sem, *] <;> rfl)); (case hl => (simp only [go_sem, *] <;> rfl)); (case hn => (simp only [go_sem, *] <;> rfl)); (case hp => first | exact c3 | (have hXz := c3; simp only [go_sem, *] at hXz; exact hXz)); (case hd => first | exact .inl rfl | exact .inr (.v _) | exact .inr .any | exact .inr .nils); (case hm => first | decide | (simp; done)))
    | (apply sl_cg; (case hop => rfl); (case hv => (simp only [go_sem, *] <;> rfl)); (case hc => (simp only [go_sem, *] <;> rfl)); (case hl => (simp only [go_sem, *] <;> rfl)); (case hn => (simp only [go_sem, *] <;> rfl)); (case hp => first | exact c4 | (have hXz := c4; simp only [go_sem, *] at hXz; exact hXz)); (case hd => first | exact .inl rfl | exact .inr (.v _) | exact .inr .any | exact .inr .nils); (case hm => first | decide | (simp; done)))
    | (apply sl_cg; (case hop => rfl); (case hv => (simp only [go_sem, *] <;> rfl)); (case hc => (simp only [go_sem, *] <;> rfl)); (case hl => (simp only [go_sem, *] <;> rfl)); (case hn => (simp only [go_sem, *] <;> rfl)); (case hp => first | exact c5 | (have hXz := c5; simp only [go_sem, *] at hXz; exact hXz)); (case hd => first | exact .inl rfl | exact .inr (.v _) | exact .inr .any | exact .inr .nils); (case hm => first | decide | (simp; done)))
    | (apply sl_cg; (case hop => rfl); (case hv => (simp only [go_sem, *] <;> rfl)); (case hc => (simp only [go_sem, *] <;> rfl)); (case hl => (simp only [go_sem, *] <;> rfl)); (case hn => (simp only [go_sem, *] <;> rfl)); (case hp => first | exact awake_ok | (have hXz := awake_ok; simp only [go_sem, *] at hXz; exact hXz)); (case hd => first | exact .inl rfl | exact .inr (.v _) | exact .inr .any | exact .inr .nils); (case hm => first | decide | (simp; done)))
    | (refine sl_nil (And.intro (by first | exact drawOk_of (by decide +kernel) | (simp only [List.map_cons, List.map_nil]; exact drawOk_of (by decide +kernel)) | decide) ?_)))
  all_goals repeat' (first | exact Lower.bool (by first | rfl | (simp only [true_and, Bool.true_and, Bool.false_and, Bool.and_true, Bool.and_false, Bool.true_or, Bool.false_or, reduceIte, Bool.false_eq_true, *]; done) | (simp only [true_and, reduceIte, Bool.false_eq_true, *] <;> rfl) | (simp [true_and]; done) | (simp_all [true_and]; done) | omega))
end Go.Proofs
end
