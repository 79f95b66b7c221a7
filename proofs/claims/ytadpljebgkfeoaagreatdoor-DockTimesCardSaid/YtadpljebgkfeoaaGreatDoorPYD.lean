import Derived.Test.YtadpljebgkfeoaaGreatDoorPYC
section
set_option linter.unusedVariables false
set_option linter.unusedSimpArgs false
namespace Go.Proofs
open Go Go.Ab
set_option maxHeartbeats 4000000
set_option maxRecDepth 100000
set_option linter.unusedSimpArgs false
set_option linter.unusedVariables false
attribute [local irreducible] Awp aops aopsL Go.Ab.Pure PureOwn
def roverB (q p : Sty) : Bool := (q.bay.toList == p.bay.toList) && decide (q.a < p.b) && decide (p.a < q.b) && decide (q.x < IntKind.i64.wrap (p.x + p.len)) && decide (p.x < IntKind.i64.wrap (q.x + q.len)) && decide (q.y < IntKind.i64.wrap (p.y + p.wid)) && decide (p.y < IntKind.i64.wrap (q.y + q.wid))
def roffB (q : By) (x : Sty) : Bool := !(decide (0 ≤ x.x) && decide (x.x ≤ IntKind.i64.wrap (q.len - x.len))) || !(decide (0 ≤ x.y) && decide (x.y ≤ IntKind.i64.wrap (q.wid - x.wid)))
theorem any_end {α : Type} {p : α → Bool} {l : List α} {d : α} {i : Nat} (h : l.length ≤ i) (hj : ∀ j, j < i → p (l.getD j d) = false) : l.any p = false := by
  rw [Bool.eq_false_iff]
  intro h2
  obtain ⟨x, hx, hpx⟩ := List.any_eq_true.1 h2
  obtain ⟨j, hjl, rfl⟩ := List.getElem_of_mem hx
  have := hj j (by omega)
  rw [List.getD_eq_getElem?_getD, List.getElem?_eq_getElem hjl, Option.getD_some, hpx] at this
  cases this
theorem any_in {α : Type} {p : α → Bool} {l : List α} {d : α} {i : Nat} (h : i < l.length) (hp : p (l.getD i d) = true) : l.any p = true := by
  refine List.any_eq_true.2 ⟨l[i], List.getElem_mem h, ?_⟩
  simpa [List.getD_eq_getElem?_getD, h] using hp
end Go.Proofs
end
section
set_option linter.unusedVariables false
set_option linter.unusedSimpArgs false
namespace Go.Proofs
open Go Go.Ab
set_option maxHeartbeats 4000000
set_option maxRecDepth 100000
set_option linter.unusedSimpArgs false
set_option linter.unusedVariables false
attribute [local irreducible] Awp aops aopsL Go.Ab.Pure PureOwn
end Go.Proofs
end
section
set_option linter.unusedVariables false
set_option linter.unusedSimpArgs false
namespace Go.Proofs
open Go Go.Ab
set_option maxHeartbeats 4000000
set_option maxRecDepth 100000
set_option linter.unusedSimpArgs false
set_option linter.unusedVariables false
attribute [local irreducible] Awp aops aopsL Go.Ab.Pure PureOwn
theorem ints_snoc (l : List Int) (s : Int) : ints l ++ [[.v (.int .i64 s)]] = ints (l ++ [s]) := by simp [ints]
theorem ints_one1 (s : Int) : [[AV.v (.int .i64 s)]] = ints [s] := rfl
theorem take_snoc {α : Type} (l : List α) (d : α) (i : Nat) (h : i < l.length) : l.take (i + 1) = l.take i ++ [l.getD i d] := by
  rw [List.take_add_one, List.getElem?_eq_getElem h]
  simp [List.getD_eq_getElem?_getD, h]
def endsL (l : List Sty) (fr : Int) : List Int := fr :: (l.filter fun q => decide (fr < q.b)).map (·.b)
theorem endsL_len (l : List Sty) (fr : Int) : (endsL l fr).length ≤ l.length + 1 := by
  have := List.length_filter_le (fun q : Sty => decide (fr < q.b)) l
  simp [endsL]; omega
theorem endsL_step (l : List Sty) (fr : Int) (i : Nat) (h : i < l.length) : endsL (l.take (i + 1)) fr = endsL (l.take i) fr ++ (if decide (fr < (l.getD i zeroSty).b) = true then [(l.getD i zeroSty).b] else []) := by
  rw [take_snoc l zeroSty i h]
  unfold endsL
  rw [List.filter_append, List.map_append, List.cons_append]
  congr 1
  congr 1
  by_cases hp : decide (fr < (l.getD i zeroSty).b) = true
  · rw [if_pos hp, List.filter_cons_of_pos (by exact hp)]; rfl
  · rw [if_neg hp, List.filter_cons_of_neg (by exact hp)]; rfl
def startsZ (l : List Sty) (fr : Int) : List Int := Lib.compact (sortI (endsL l fr))
theorem starts_ok (l : List Sty) (fr : Int) (hl : l.length < 900000) : PureOwn Tryz.prog 43 [.sl (stys l), .v (.int .i64 fr)] (ints (startsZ l fr)) 1 3 := by
  have e0 := ints_one1 fr
  refine fn_own Tryz.F43 (Nat.le_of_ble_eq_true rfl) ?_; unfold Tryz.ac43
  repeat' (first
    | (apply Awp.sreg; (case hn => (simp only [List.length_cons, List.length_nil, Nat.reduceAdd] <;> rfl)))
    | (refine st_nil ?_)
    | (apply st_a; (case hc => rfl); (case he => (simp only [go_sem, *] <;> rfl)); (case hu => (simp only [updL_nil, updL_cons] <;> rfl)); (case hp => first | trivial | (simp; done)))
    | refine Awp.block ?_
    | refine Awp.seq ?_)
  refine Awp.loop (fun i : Nat => i ≤ l.length) 50 (fun i => mkS [(1, .v (.int .i64 fr)), (5, .own 0), (10, .sl (stys l)), (11, .v (.int .i64 l.length)), (12, .v (.int .i64 i))] [(0, .row (ints (endsL (l.take i) fr)) 1 3)]) (fun i => l.length - i) 0 (by omega) ?_ ?_
  · have e1 : endsL (l.take 0) fr = [fr] := rfl
    (apply Ghost.mk [(0, 2)] []; (case hdead => rfl); (case hinj => rfl); (case hV => (simp only [go_sem, *]) <;> (repeat' (first | refine And.intro ?_ ?_ | exact View.int (by first | rfl | omega | (simp; done) | (rw [wrap_i64] <;> (try simp only [Int.natCast_add]) <;> omega) | (simp [*]; done)) | exact .own rfl (by decide)))); (case hB => (simp only [go_sem, *]) <;> (repeat' (first | exact ⟨_, rfl, .rowE (by first | rfl | omega | (simp; done) | (rw [wrap_i64] <;> (try simp only [Int.natCast_add]) <;> omega) | (simp [*]; done))⟩))))
  · intro i hi
    by_cases hlt : i < l.length
    · have hlt' : (i : Int) < l.length := by omega
      have hat := stys_at l i hlt
      have hz : ((l.getD i zeroSty).cells).length = 8 := rfl
      have hst := endsL_step l fr i hlt
      have hln := endsL_len (l.take i) fr
      have htl : (l.take i).length = i := List.length_take_of_le hi
      cases hB : decide (fr < (l.getD i zeroSty).b)
      · rw [hB] at hst
        simp only [Bool.false_eq_true, if_false, List.append_nil] at hst
        repeat' (first
    | (apply Awp.sreg; (case hn => (simp only [List.length_cons, List.length_nil, Nat.reduceAdd] <;> rfl)))
    | (refine st_nil ?_)
    | (apply st_a; (case hc => rfl); (case he => (simp only [go_sem, *] <;> rfl)); (case hu => (simp only [updL_nil, updL_cons] <;> rfl)); (case hp => first | trivial | omega))
    | (apply Awp.reg; (case hn => (simp only [List.length_cons, List.length_nil, Nat.reduceAdd] <;> rfl)))
    | (refine Awp.skip ?_; try simp only [go_sem, *])
    | refine Awp.block ?_
    | (apply Awp.cond; (case hc => (simp only [go_sem, *] <;> rfl)); all_goals (intro hg; (try simp only [Bool.not_true, Bool.not_false, reduceCtorEq] at hg)))
    | refine Awp.seq ?_)
        refine ⟨i + 1, by omega, by omega, ?_⟩
        (apply Ghost.mk [] []; (case hdead => rfl); (case hinj => rfl); (case hV => (simp only [go_sem, *]) <;> (repeat' (first | refine And.intro ?_ ?_ | exact View.int (by first | rfl | omega | (simp; done) | (rw [wrap_i64] <;> (try simp only [Int.natCast_add]) <;> omega) | (simp [*]; done)) | exact .own rfl (by decide)))); (case hB => (simp only [go_sem, *]) <;> (repeat' (first | exact ⟨_, rfl, .rowE (by first | rfl | omega | (simp; done) | (rw [wrap_i64] <;> (try simp only [Int.natCast_add]) <;> omega) | (simp [*]; done))⟩))))
      · rw [hB] at hst
        simp only [if_true] at hst
        repeat' (first
    | (apply Awp.sreg; (case hn => (simp only [List.length_cons, List.length_nil, Nat.reduceAdd] <;> rfl)))
    | (refine st_nil ?_)
    | (apply st_a; (case hc => rfl); (case he => (simp only [go_sem, *] <;> rfl)); (case hu => (simp only [updL_nil, updL_cons] <;> rfl)); (case hp => first | trivial | omega | (simp; done) | (simp; omega)))
    | (apply Awp.reg; (case hn => (simp only [List.length_cons, List.length_nil, Nat.reduceAdd] <;> rfl)))
    | (refine Awp.skip ?_; try simp only [go_sem, *])
    | refine Awp.block ?_
    | (apply Awp.cond; (case hc => (simp only [go_sem, *] <;> rfl)); all_goals (intro hg; (try simp only [Bool.not_true, Bool.not_false, reduceCtorEq] at hg)))
    | refine Awp.seq ?_)
        refine ⟨i + 1, by omega, by omega, ?_⟩
        (apply Ghost.mk [(0, 65)] []; (case hdead => rfl); (case hinj => rfl); (case hV => (simp only [go_sem, *]) <;> (repeat' (first | refine And.intro ?_ ?_ | exact View.int (by first | rfl | exact ints_snoc _ _ | omega | (simp; done) | (rw [wrap_i64] <;> (try simp only [Int.natCast_add]) <;> omega) | (simp [*]; done)) | exact .own rfl (by decide)))); (case hB => (simp only [go_sem, *]) <;> (repeat' (first | exact ⟨_, rfl, .rowE (by first | rfl | exact ints_snoc _ _ | omega | (simp; done) | (rw [wrap_i64] <;> (try simp only [Int.natCast_add]) <;> omega) | (simp [*]; done))⟩))))
    · have hlt' : ¬ (i : Int) < l.length := by omega
      have e1 : l.take i = l := List.take_of_length_le (by omega)
      have hln := endsL_len l fr
      have hs1 := sort_cc (endsL l fr) 0 51 3 (by omega)
      have hs2 : (sortI (endsL l fr)).length < 1000000 := by rw [sortI_len]; omega
      repeat' (first
    | (apply Awp.sreg; (case hn => (simp only [List.length_cons, List.length_nil, Nat.reduceAdd] <;> rfl)))
    | (refine st_nil ?_)
    | (apply st_a; (case hc => rfl); (case he => (simp only [go_sem, *] <;> rfl)); (case hu => (simp only [updL_nil, updL_cons] <;> rfl)); (case hp => first | trivial))
    | (apply st_cc; (case hc => (simp only [go_sem, *] <;> rfl)); (case hcc => exact sort_cc (endsL l fr) _ _ 3 (by omega)); (case hh => (first | (simp only [List.mem_singleton, forall_eq]; first | (simp only [go_sem, *] <;> rfl) | (simp only [go_sem, *]; simp [ints])) | (intro p hp; cases hp; done) | (intro p hp; simp only [List.mem_cons, List.not_mem_nil, or_false] at hp; rcases hp with rfl | rfl | rfl | rfl | rfl | rfl | rfl <;> (simp only [go_sem, *] <;> rfl)) | (intro p hp; simp only [List.mem_cons, List.not_mem_nil, or_false] at hp; rcases hp with rfl | rfl | rfl | rfl <;> (simp only [go_sem, *] <;> rfl)))); (case hu => (first | (simp; done) | decide)); (case hm => (first | decide | (simp; done))); (case hw => (simp only [updL_nil, updL_cons] <;> rfl)))
    | (apply st_cc; (case hc => (simp only [go_sem, *] <;> rfl)); (case hcc => exact compact_cc (sortI (endsL l fr)) _ _ 3 (by decide) hs2); (case hh => (first | (simp only [List.mem_singleton, forall_eq]; first | (simp only [go_sem, *] <;> rfl) | (simp only [go_sem, *]; simp [ints])) | (intro p hp; cases hp; done) | (intro p hp; simp only [List.mem_cons, List.not_mem_nil, or_false] at hp; rcases hp with rfl | rfl | rfl | rfl | rfl | rfl | rfl <;> (simp only [go_sem, *] <;> rfl)) | (intro p hp; simp only [List.mem_cons, List.not_mem_nil, or_false] at hp; rcases hp with rfl | rfl | rfl | rfl <;> (simp only [go_sem, *] <;> rfl)))); (case hu => (first | (simp; done) | decide)); (case hm => (first | decide | (simp; done))); (case hw => (simp only [updL_nil, updL_cons] <;> rfl)))
    | (refine Awp.ret ?_; try simp only [go_sem, *])
    | (refine Awp.exit ?_; try simp only [go_sem, *])
    | (apply Awp.cond; (case hc => (simp only [go_sem, *] <;> rfl)); all_goals (intro hg; (try simp only [Bool.not_true, Bool.not_false, reduceCtorEq] at hg)))
    | refine Awp.seq ?_)
      exact ⟨54, rfl, rfl⟩
def Sty.at_ (x : Sty) (X Y : Int) : Sty := ⟨x.item, x.bay, X, Y, x.len, x.wid, x.a, x.b⟩
end Go.Proofs
end
section
set_option linter.unusedVariables false
set_option linter.unusedSimpArgs false
namespace Go.Proofs
open Go Go.Ab
set_option linter.unusedSimpArgs false
set_option linter.unusedVariables false
theorem fs_hit {α β : Type} {f : α → Option β} {l : List α} {d : α} {i : Nat} {b : β} (hi : i < l.length) (hj : ∀ j, j < i → f (l.getD j d) = none) (h : f (l.getD i d) = some b) : l.findSome? f = some b := by
  have h1 : l.getD i d = l[i] := by simp [List.getD_eq_getElem?_getD, hi]
  have e : l = l.take i ++ l[i] :: l.drop (i + 1) := by rw [List.getElem_cons_drop, List.take_append_drop]
  have hn : (l.take i).findSome? f = none := by
    rw [List.findSome?_eq_none_iff]
    intro y hy
    obtain ⟨j, hjl, rfl⟩ := List.getElem_of_mem hy
    have hji : j < i := by simp at hjl; omega
    have := hj j hji
    have hjll : j < l.length := by omega
    have h2 : l.getD j d = (l.take i)[j] := by simp [List.getD_eq_getElem?_getD, hjll]
    rwa [h2] at this
  rw [h1] at h
  rw [e, List.findSome?_append, hn, Option.none_or, List.findSome?_cons, h]
theorem fs_no {α β : Type} {f : α → Option β} {l : List α} {d : α} {i : Nat} (hi : l.length ≤ i) (hj : ∀ j, j < i → f (l.getD j d) = none) : l.findSome? f = none := by
  rw [List.findSome?_eq_none_iff]
  intro y hy
  obtain ⟨j, hjl, rfl⟩ := List.getElem_of_mem hy
  have := hj j (by omega)
  rwa [List.getD_eq_getElem?_getD, List.getElem?_eq_getElem hjl, Option.getD_some] at this
def good (bs : List By) (x : Sty) : Bool := idB x.item && (findB bs x.bay).2 && !rngB x && !offB (findB bs x.bay).1 x
def apart (p q : Sty) : Prop := overB p q = false
def baysOk (bs : List By) : Prop := bs.length ≤ 8 ∧ ∀ i, i < bs.length → bayAt bs i = 0
theorem mem_cs (L : List Int) (Y : Int) : Y ∈ Lib.compact (sortI L) ↔ Y ∈ L := by
  show Y ∈ Lib.compact (sortZ L) ↔ Y ∈ L
  exact ((compact_sorted (sortZ L) (sortZ_asc _)).2 Y).trans (mem_sortZ _ _)
end Go.Proofs
end
section
set_option linter.unusedVariables false
set_option linter.unusedSimpArgs false
namespace Go.Proofs
open Go Go.Ab
set_option linter.unusedSimpArgs false
set_option linter.unusedVariables false
def dupB (l : List Sty) (i : Nat) : Bool := (l.take i).any fun x => x.item.toList == (l.getD i zeroSty).item.toList
def clashB (b x : Sty) : Bool := (x.bay.toList == b.bay.toList) && decide (b.a < x.b) && decide (x.b < b.b)
def dockE (bs : List By) (l : List Sty) : Int :=
  if checkE bs l != 0 then checkE bs l else if (List.range l.length).any (dupB l) then 7 else if l.any (fun b => l.any (clashB b)) then 14 else 0
/-- No berth is in the way of another one. -/
def Free (l : List Sty) (x : Sty) : Prop :=
  ∀ b ∈ l, b.bay.toList = x.bay.toList → b.a < x.b → x.a < b.b → b.b = x.b ∧ ¬ (x.x < b.x + b.len ∧ b.x < x.x + x.len ∧ x.y < b.y + b.wid ∧ b.y < x.y + x.wid)
def nearD (d : By) (x b : Sty) : Bool := (b.bay.toList == d.nm.toList) && decide (x.a < b.b) && decide (b.a < x.b)
def meetB (a b : Sty) : Bool := decide (a.a < b.b) && decide (b.a < a.b) && decide (a.x < IntKind.i64.wrap (b.x + b.len)) && decide (b.x < IntKind.i64.wrap (a.x + a.len)) && decide (a.y < IntKind.i64.wrap (b.y + b.wid)) && decide (b.y < IntKind.i64.wrap (a.y + a.wid))
def besideL (d : By) (l : List Sty) (x : Sty) : List Sty := l.filter (nearD d x)
def xsD (d : By) (l : List Sty) (x : Sty) : List Int := 0 :: (besideL d l x).map fun b => IntKind.i64.wrap (b.x + b.len)
def ysD (d : By) (l : List Sty) (x : Sty) : List Int := 0 :: (besideL d l x).map fun b => IntKind.i64.wrap (b.y + b.wid)
def okP (d : By) (near : List Sty) (x : Sty) (X Y : Int) : Bool := !(near.any (meetB (x.at_ X Y))) && decide (IntKind.i64.wrap (X + x.len) ≤ d.len) && decide (IntKind.i64.wrap (Y + x.wid) ≤ d.wid)
def endBad (d : By) (x b : Sty) : Bool := nearD d x b && (b.b != x.b)
def placeD (d : By) (l : List Sty) (x : Sty) : Option Sty :=
  if l.any (endBad d x) then none else (scanE (okP d (besideL d l x) x) (sortI (ysD d l x)) (sortI (xsD d l x))).map fun o => x.at_ o.1 o.2
def inDock (x b : Sty) : Bool := b.bay.toList == x.bay.toList
def xsA (l : List Sty) (x : Sty) : List Int := 0 :: (l.filter (inDock x)).map fun b => IntKind.i64.wrap (b.x + b.len)
def ysA (l : List Sty) (x : Sty) : List Int := 0 :: (l.filter (inDock x)).map fun b => IntKind.i64.wrap (b.y + b.wid)
def atOk (bs : List By) (l : List Sty) (x : Sty) (X Y : Int) : Bool := dockE bs (l ++ [x.at_ X Y]) == 0
def atD (bs : List By) (l : List Sty) (x : Sty) : Option Sty :=
  (scanE (atOk bs l x) (Lib.compact (sortI (ysA l x))) (Lib.compact (sortI (xsA l x)))).map fun o => x.at_ o.1 o.2
/-- What a berth that is looked for keeps. -/
structure Asked (bs : List By) (l : List Sty) (d : By) (x : Sty) : Prop where
  ok : dockE bs l = 0
  room : l.length < 128
  new : ∀ b ∈ l, b.item.toList ≠ x.item.toList
  id : idB x.item = true
  dock : findB bs d.nm = (d, true)
  bay : x.bay = d.nm
  len : 1 ≤ x.len ∧ x.len ≤ 524288
  wid : 1 ≤ x.wid ∧ x.wid ≤ 524288
  tim : 0 ≤ x.a ∧ x.a < x.b ∧ x.b ≤ 1048576
section
variable {bs : List By} {l : List Sty} {d : By} {x : Sty}
def Fits (l : List Sty) (d : By) (x : Sty) (X Y : Int) : Prop := 0 ≤ X ∧ 0 ≤ Y ∧ X + x.len ≤ d.len ∧ Y + x.wid ≤ d.wid ∧ Free l (x.at_ X Y)
end
end Go.Proofs
end
section
set_option linter.unusedVariables false
set_option linter.unusedSimpArgs false
namespace Go.Proofs
open Go Go.Ab
set_option maxHeartbeats 4000000
set_option maxRecDepth 100000
set_option linter.unusedSimpArgs false
set_option linter.unusedVariables false
attribute [local irreducible] Awp aops aopsL Go.Ab.Pure PureOwn
def Sp.cells (s : Sp) : List AV := [.v (.int .i64 s.a), .v (.int .i64 s.b)]
def Sp.av (s : Sp) : AV := .agg s.cells
attribute [go_sem] Sp.av Sp.cells
def sps (l : List Sp) : List (List AV) := l.map Sp.cells
@[go_sem] theorem sps_len (l : List Sp) : (sps l).length = l.length := by simp [sps]
theorem sps_at (l : List Sp) (i : Nat) (h : i < l.length) : (sps l).getD i [] = (l.getD i zeroSp).cells := by
  simp [sps, List.getD_eq_getElem?_getD, h]
theorem sps_one (l : List Sp) : ∀ y ∈ sps l, y.length = 2 := by
  intro y hy; obtain ⟨s, _, rfl⟩ := List.mem_map.1 hy; rfl
theorem sps_append (l m : List Sp) : sps (l ++ m) = sps l ++ sps m := by simp [sps]
theorem sps_snoc (l : List Sp) (x : Sp) : sps l ++ [[.v (.int .i64 x.a), .v (.int .i64 x.b)]] = sps (l ++ [x]) := by simp [sps, Sp.cells]
theorem sps_one1 (x : Sp) : [[AV.v (.int .i64 x.a), .v (.int .i64 x.b)]] = sps [x] := rfl
theorem sps_set (l : List Sp) (i : Nat) (x : Sp) : (sps l).set i [.v (.int .i64 x.a), .v (.int .i64 x.b)] = sps (l.set i x) := by
  simp [sps, List.map_set, Sp.cells]
theorem empty_ok (x : Sp) : Pure Tryz.prog 102 [x.av] (.v (.bool (decide (x.b ≤ x.a)))) := by
  refine fn_pure Tryz.F102 (Nat.le_of_ble_eq_true rfl) ?_; unfold Tryz.ac102
  repeat' (first
    | (apply Awp.sreg; (case hn => (simp only [List.length_cons, List.length_nil, Nat.reduceAdd] <;> rfl)))
    | (refine st_nil ?_)
    | (apply st_a; (case hc => rfl); (case he => (simp only [go_sem, *] <;> rfl)); (case hu => (simp only [updL_nil, updL_cons] <;> rfl)); (case hp => first | trivial))
    | (refine Awp.ret ?_; try simp only [go_sem, *]))
  all_goals repeat' (first | exact Lower.bool (by first | rfl | (simp only [true_and, Bool.true_and, Bool.false_and, Bool.and_true, Bool.and_false, Bool.true_or, Bool.false_or, reduceIte, Bool.false_eq_true, *]; done) | (simp only [true_and, reduceIte, Bool.false_eq_true, *] <;> rfl) | (simp [true_and]; done) | (simp_all [true_and]; done) | omega))
def inB (n : Int) (s : Sp) : Bool := decide (s.a ≤ n) && decide (n < s.b)
theorem index_ok (l : List Sp) (g : Nat) (cs : List AV) (p : Sp → Bool) (hl : l.length < 1000000) (hp : ∀ x : Sp, Pure Tryz.prog g [x.av, .rp cs] (.v (.bool (p x)))) :
    Pure Tryz.prog 111 [.sl (sps l), .fn g [.rp cs]] (.v (.int .i64 (idxF p l))) := by
  refine fn_pure Tryz.F111 (Nat.le_of_ble_eq_true rfl) ?_; unfold Tryz.ac111
  repeat' (first
    | (apply Awp.sreg; (case hn => (simp only [List.length_cons, List.length_nil, Nat.reduceAdd] <;> rfl)))
    | (refine st_nil ?_)
    | (apply st_a; (case hc => rfl); (case he => (simp only [go_sem, *] <;> rfl)); (case hu => (simp only [updL_nil, updL_cons] <;> rfl)); (case hp => first | trivial))
    | refine Awp.block ?_
    | refine Awp.seq ?_)
  refine Awp.loop (fun i : Nat => i ≤ l.length ∧ ∀ j, j < i → p (l.getD j zeroSp) = false) 40 (fun i => mkS [(0, .sl (sps l)), (1, .fn g [.rp cs]), (7, .v (.int .i64 l.length)), (8, .v (.int .i64 i))] []) (fun i => l.length - i) 0 (by simp) ?_ ?_
  · (apply Ghost.mk [] []; (case hdead => rfl); (case hinj => rfl); (case hV => (simp only [go_sem, *]) <;> (repeat' (first | refine And.intro ?_ ?_ | exact View.int (by first | rfl | omega | (simp; done) | (rw [wrap_i64] <;> (try simp only [Int.natCast_add]) <;> omega) | (simp [*]; done)) | (refine View.fnF ?_; (simp [AV.flat]; done))))); (case hB => (simp only [go_sem, *]) <;> (repeat' (first | skip; done))))
  · intro i ⟨hi, hj⟩
    by_cases hlt : i < l.length
    · have hlt' : (i : Int) < l.length := by omega
      have hat := sps_at l i hlt
      have hz : ((l.getD i zeroSp).cells).length = 2 := rfl
      have hpi := hp (l.getD i zeroSp)
      repeat' (first
    | (apply Awp.sreg; (case hn => (simp only [List.length_cons, List.length_nil, Nat.reduceAdd] <;> rfl)))
    | (refine st_nil ?_)
    | (apply st_a; (case hc => rfl); (case he => (simp only [go_sem, *] <;> rfl)); (case hu => (simp only [updL_nil, updL_cons] <;> rfl)); (case hp => first | trivial | omega))
    | (apply st_c; (case hc => (simp only [go_sem, *] <;> rfl)); (case hl => (simp only [go_sem, *] <;> rfl)); (case hn => (simp only [go_sem, *] <;> rfl)); (case hp => first | exact hpi | (have hXz := hpi; simp only [go_sem, *] at hXz; exact hXz)))
    | (apply Awp.reg; (case hn => (simp only [List.length_cons, List.length_nil, Nat.reduceAdd] <;> rfl)))
    | (refine Awp.ret ?_; try simp only [go_sem, *])
    | (refine Awp.skip ?_; try simp only [go_sem, *])
    | refine Awp.block ?_
    | (apply Awp.cond; (case hc => (simp only [go_sem, *] <;> rfl)); all_goals (intro hg; (try simp only [Bool.not_true, Bool.not_false, reduceCtorEq] at hg)))
    | refine Awp.seq ?_)
      · exact Lower.int (idxF_in hlt hg hj).symm
      · refine ⟨i + 1, ⟨by omega, ltSucc hj hg⟩, by omega, ?_⟩
        (apply Ghost.mk [] []; (case hdead => rfl); (case hinj => rfl); (case hV => (simp only [go_sem, *]) <;> (repeat' (first | refine And.intro ?_ ?_ | exact View.int (by first | rfl | omega | (simp; done) | (rw [wrap_i64] <;> (try simp only [Int.natCast_add]) <;> omega) | (simp [*]; done)) | (refine View.fnF ?_; (simp [AV.flat]; done))))); (case hB => (simp only [go_sem, *]) <;> (repeat' (first | skip; done))))
    · have hlt' : ¬ (i : Int) < l.length := by omega
      repeat' (first
    | (apply Awp.sreg; (case hn => (simp only [List.length_cons, List.length_nil, Nat.reduceAdd] <;> rfl)))
    | (refine st_nil ?_)
    | (apply st_a; (case hc => rfl); (case he => (simp only [go_sem, *] <;> rfl)); (case hu => (simp only [updL_nil, updL_cons] <;> rfl)); (case hp => first | trivial))
    | (refine Awp.ret ?_; try simp only [go_sem, *])
    | (refine Awp.exit ?_; try simp only [go_sem, *])
    | (apply Awp.cond; (case hc => (simp only [go_sem, *] <;> rfl)); all_goals (intro hg; (try simp only [Bool.not_true, Bool.not_false, reduceCtorEq] at hg); (try have hg' := hg); (try simp only [decide_eq_true_eq, decide_eq_false_iff_not, Bool.and_eq_true, Bool.or_eq_false_iff, bne_iff_ne, bne_eq_false_iff_eq, beq_iff_eq, beq_eq_false_iff_ne, Int.not_lt, Int.not_le, Int.ofNat_lt, Int.ofNat_le, Int.natCast_inj] at hg')))
    | refine Awp.seq ?_)
      exact Lower.int (idxF_out (Nat.le_of_not_lt hlt) hj).symm
theorem indexN_ok (l : List Sp) (g : Nat) (p : Sp → Bool) (hl : l.length < 1000000) (hp : ∀ x : Sp, Pure Tryz.prog g [x.av] (.v (.bool (p x)))) :
    Pure Tryz.prog 111 [.sl (sps l), .fn g []] (.v (.int .i64 (idxF p l))) := by
  refine fn_pure Tryz.F111 (Nat.le_of_ble_eq_true rfl) ?_; unfold Tryz.ac111
  repeat' (first
    | (apply Awp.sreg; (case hn => (simp only [List.length_cons, List.length_nil, Nat.reduceAdd] <;> rfl)))
    | (refine st_nil ?_)
    | (apply st_a; (case hc => rfl); (case he => (simp only [go_sem, *] <;> rfl)); (case hu => (simp only [updL_nil, updL_cons] <;> rfl)); (case hp => first | trivial))
    | refine Awp.block ?_
    | refine Awp.seq ?_)
  refine Awp.loop (fun i : Nat => i ≤ l.length ∧ ∀ j, j < i → p (l.getD j zeroSp) = false) 40 (fun i => mkS [(0, .sl (sps l)), (1, .fn g []), (7, .v (.int .i64 l.length)), (8, .v (.int .i64 i))] []) (fun i => l.length - i) 0 (by simp) ?_ ?_
  · (apply Ghost.mk [] []; (case hdead => rfl); (case hinj => rfl); (case hV => (simp only [go_sem, *]) <;> (repeat' (first | refine And.intro ?_ ?_ | exact View.int (by first | rfl | omega | (simp; done) | (rw [wrap_i64] <;> (try simp only [Int.natCast_add]) <;> omega) | (simp [*]; done)) | (refine View.fnF ?_; (simp [AV.flat]; done))))); (case hB => (simp only [go_sem, *]) <;> (repeat' (first | skip; done))))
  · intro i ⟨hi, hj⟩
    by_cases hlt : i < l.length
    · have hlt' : (i : Int) < l.length := by omega
      have hat := sps_at l i hlt
      have hz : ((l.getD i zeroSp).cells).length = 2 := rfl
      have hpi := hp (l.getD i zeroSp)
      repeat' (first
    | (apply Awp.sreg; (case hn => (simp only [List.length_cons, List.length_nil, Nat.reduceAdd] <;> rfl)))
    | (refine st_nil ?_)
    | (apply st_a; (case hc => rfl); (case he => (simp only [go_sem, *] <;> rfl)); (case hu => (simp only [updL_nil, updL_cons] <;> rfl)); (case hp => first | trivial | omega))
    | (apply st_c; (case hc => (simp only [go_sem, *] <;> rfl)); (case hl => (simp only [go_sem, *] <;> rfl)); (case hn => (simp only [go_sem, *] <;> rfl)); (case hp => first | exact hpi | (have hXz := hpi; simp only [go_sem, *] at hXz; exact hXz)))
    | (apply Awp.reg; (case hn => (simp only [List.length_cons, List.length_nil, Nat.reduceAdd] <;> rfl)))
    | (refine Awp.ret ?_; try simp only [go_sem, *])
    | (refine Awp.skip ?_; try simp only [go_sem, *])
    | refine Awp.block ?_
    | (apply Awp.cond; (case hc => (simp only [go_sem, *] <;> rfl)); all_goals (intro hg; (try simp only [Bool.not_true, Bool.not_false, reduceCtorEq] at hg)))
    | refine Awp.seq ?_)
      · exact Lower.int (idxF_in hlt hg hj).symm
      · refine ⟨i + 1, ⟨by omega, ltSucc hj hg⟩, by omega, ?_⟩
        (apply Ghost.mk [] []; (case hdead => rfl); (case hinj => rfl); (case hV => (simp only [go_sem, *]) <;> (repeat' (first | refine And.intro ?_ ?_ | exact View.int (by first | rfl | omega | (simp; done) | (rw [wrap_i64] <;> (try simp only [Int.natCast_add]) <;> omega) | (simp [*]; done)) | (refine View.fnF ?_; (simp [AV.flat]; done))))); (case hB => (simp only [go_sem, *]) <;> (repeat' (first | skip; done))))
    · have hlt' : ¬ (i : Int) < l.length := by omega
      repeat' (first
    | (apply Awp.sreg; (case hn => (simp only [List.length_cons, List.length_nil, Nat.reduceAdd] <;> rfl)))
    | (refine st_nil ?_)
    | (apply st_a; (case hc => rfl); (case he => (simp only [go_sem, *] <;> rfl)); (case hu => (simp only [updL_nil, updL_cons] <;> rfl)); (case hp => first | trivial))
    | (refine Awp.ret ?_; try simp only [go_sem, *])
    | (refine Awp.exit ?_; try simp only [go_sem, *])
    | (apply Awp.cond; (case hc => (simp only [go_sem, *] <;> rfl)); all_goals (intro hg; (try simp only [Bool.not_true, Bool.not_false, reduceCtorEq] at hg); (try have hg' := hg); (try simp only [decide_eq_true_eq, decide_eq_false_iff_not, Bool.and_eq_true, Bool.or_eq_false_iff, bne_iff_ne, bne_eq_false_iff_eq, beq_iff_eq, beq_eq_false_iff_ne, Int.not_lt, Int.not_le, Int.ofNat_lt, Int.ofNat_le, Int.natCast_inj] at hg')))
    | refine Awp.seq ?_)
      exact Lower.int (idxF_out (Nat.le_of_not_lt hlt) hj).symm
end Go.Proofs
end
section
set_option linter.unusedVariables false
set_option linter.unusedSimpArgs false
namespace Go.Proofs
open Go Go.Ab
set_option maxHeartbeats 4000000
set_option maxRecDepth 100000
set_option linter.unusedSimpArgs false
set_option linter.unusedVariables false
attribute [local irreducible] Awp aops aopsL Go.Ab.Pure PureOwn
def zrow : List AV := [.v (.int .i64 0), .v (.int .i64 0)]
def delRow (l : List Sp) : List (List AV) := sps (l.filter fullB) ++ List.replicate (l.length - (l.filter fullB).length) zrow
theorem full_not (s : Sp) : fullB s = !decide (s.b ≤ s.a) := by
  unfold fullB
  rw [Bool.eq_iff_iff]; simp
theorem filter_none {l : List Sp} (h : ∀ j, j < l.length → decide ((l.getD j zeroSp).b ≤ (l.getD j zeroSp).a) = false) : l.filter fullB = l := by
  rw [List.filter_eq_self]
  intro x hx
  obtain ⟨i, hi, rfl⟩ := List.getElem_of_mem hx
  have := h i hi
  rw [List.getD_eq_getElem?_getD, List.getElem?_eq_getElem hi] at this
  simp only [Option.getD_some] at this
  rw [full_not, this]; rfl
theorem idxF_some {α : Type} {p : α → Bool} {l : List α} (d : α) : (idxF p l = -1 ∧ ∀ j, j < l.length → p (l.getD j d) = false) ∨ ∃ i, i < l.length ∧ idxF p l = i ∧ p (l.getD i d) = true ∧ ∀ j, j < i → p (l.getD j d) = false := by
  have hg : ∀ j (hh : j < l.length), l.getD j d = l[j] := fun j hh => by simp [List.getD_eq_getElem?_getD, hh]
  unfold idxF
  by_cases h : l.findIdx p < l.length
  · right
    refine ⟨l.findIdx p, h, by rw [if_pos h], ?_, fun j hj => ?_⟩
    · rw [hg _ h]; exact List.findIdx_getElem (w := h)
    · rw [hg j (by omega)]
      have := List.not_of_lt_findIdx hj
      simpa using this
  · left
    refine ⟨by rw [if_neg h], fun j hj => ?_⟩
    rw [hg j hj]
    rw [Bool.eq_false_iff]
    intro hp
    exact h (List.findIdx_lt_length_of_exists ⟨_, List.getElem_mem hj, hp⟩)
def keepL (l : List Sp) (j : Nat) : List Sp := (l.take j).filter fullB
theorem take_snocS (l : List Sp) (i : Nat) (h : i < l.length) : l.take (i + 1) = l.take i ++ [l.getD i zeroSp] := by
  rw [List.take_add_one, List.getElem?_eq_getElem h]
  simp [List.getD_eq_getElem?_getD, h]
theorem keep_step (l : List Sp) (j : Nat) (h : j < l.length) : keepL l (j + 1) = keepL l j ++ (if fullB (l.getD j zeroSp) = true then [l.getD j zeroSp] else []) := by
  unfold keepL
  rw [take_snocS l j h, List.filter_append]
  congr 1
  by_cases hp : fullB (l.getD j zeroSp) = true
  · rw [if_pos hp, List.filter_cons_of_pos hp]; rfl
  · rw [if_neg hp, List.filter_cons_of_neg hp]; rfl
theorem drop_cons (l : List Sp) (j : Nat) (h : j < l.length) : l.drop j = l.getD j zeroSp :: l.drop (j + 1) := by
  rw [List.drop_eq_getElem_cons h]
  simp [List.getD_eq_getElem?_getD, h]
def dS (l : List Sp) (q : Nat × List Sp) : AState :=
  mkS [(0, .own 2), (1, .fn 102 []), (5, .v (.int .i64 (keepL l q.1).length)), (6, .v (.int .i64 q.1))] [(2, .row (sps (keepL l q.1 ++ q.2 ++ l.drop q.1)) 2 30)]
theorem del_cc (l : List Sp) (nm : Nat) (hl : l.length < 100000) (hnm : 3 ≤ nm) :
    CallC Tryz.prog 100 [.own 2, .fn 102 []] [(2, .row (sps l) 2 30)] nm (.pre 2 (l.filter fullB).length) [(2, some (.row (delRow l) 2 30))] := by
  have c0 := indexN_ok l 102 (fun s => decide (s.b ≤ s.a)) (by omega) empty_ok
  have hll := sps_len l
  rcases idxF_some (p := fun s : Sp => decide (s.b ≤ s.a)) (l := l) zeroSp with ⟨e, hall⟩ | ⟨i0, hi0, e, hp, hall⟩
  · have hf := filter_none hall
    have hd : delRow l = sps l := by unfold delRow; rw [hf]; simp
    rw [hd, hf]
    rw [e] at c0
    have key : CallC Tryz.prog 100 [.own 2, .fn 102 []] [(2, .row (sps l) 2 30)] nm (.own 2) [(2, some (.row (sps l) 2 30))] := by
      refine fn_cc Tryz.F100 (Nat.le_of_ble_eq_true rfl) (bs := 3) ?_ ?_ ?_ ?_ ?_ ?_ ?_
      · simp
      · simp; omega
      · simp
      · simp
      · simp only [List.map_cons, List.map_nil, List.mem_cons, List.not_mem_nil, or_false]
        rintro p rfl
        exact .row rfl
      · intro j hj
        match j, hj with
        | 0, _ => exact .own rfl (by simp)
        | 1, _ => exact .fn rfl fun j hj => by simp at hj
      · unfold Tryz.ac100
        clear hd hf hall e
        have hav0 : av [AV.own 2, AV.fn 102 []] 0 = AV.own 2 := rfl
        have hav1 : av [AV.own 2, AV.fn 102 []] 1 = AV.fn 102 [] := rfl
        repeat' (first
    | (apply Awp.sreg; (case hn => (simp only [List.length_cons, List.length_nil, Nat.reduceAdd] <;> rfl)))
    | (refine st_nil ?_)
    | (apply st_a; (case hc => rfl); (case he => (simp only [go_sem, *] <;> rfl)); (case hu => (simp only [updL_nil, updL_cons] <;> rfl)); (case hp => first | trivial))
    | (apply st_cd; (case hc => (simp only [go_sem, *] <;> rfl)); (case hl => (simp only [go_sem, *] <;> rfl)); (case hn => (simp only [go_sem, *] <;> rfl)); (case hp => first | exact c0 | (have hXz := c0; simp only [go_sem, *] at hXz; exact hXz)); (case hd => first | exact .v _ | exact .any | exact .nils | (repeat' (first | exact Dry.v _ | exact Dry.any | exact Dry.nils | exact Dry.slE | refine Dry.agg ?_ | refine Dry.tup ?_ | (refine List.forall_mem_cons.2 (And.intro ?_ ?_)) | (intro cQ hQ; cases hQ; done)))); (case hm => first | decide | (simp; done)))
    | (refine Awp.ret ?_; try simp only [go_sem, *])
    | (apply Awp.cond; (case hc => (simp only [go_sem, *] <;> rfl)); all_goals (intro hg; (try simp only [Bool.not_true, Bool.not_false, reduceCtorEq] at hg)))
    | refine Awp.seq ?_)
        have hr : ∀ k, k < 3 → rn nm 3 k = k := fun k hk => by unfold rn; rw [if_neg (by omega)]
        refine ⟨3, Nat.le_refl _, .own (hr 2 (by omega)) (by simp), fun k b' hk => ?_⟩
        by_cases h2 : k = 2
        · subst h2
          have e1 : b' = .row (sps l) 2 30 := by simpa [upd] using hk.symm
          subst e1
          rw [hr 2 (by omega)]
          exact ⟨_, rfl, .row rfl⟩
        · simp [upd, updL, listH, h2] at hk
    have := key.ownPre (es := sps l) (sz := 2) (e := 30) (by simp [updL, upd]) (by simp)
    rw [sps_len] at this
    exact this
  · rw [e] at c0
    refine fn_cc Tryz.F100 (Nat.le_of_ble_eq_true rfl) (bs := 3) ?_ ?_ ?_ ?_ ?_ ?_ ?_
    · simp
    · simp; omega
    · simp
    · simp
    · simp only [List.map_cons, List.map_nil, List.mem_cons, List.not_mem_nil, or_false]
      rintro p rfl
      exact .row rfl
    · intro j hj
      match j, hj with
      | 0, _ => exact .own rfl (by simp)
      | 1, _ => exact .fn rfl fun j hj => by simp at hj
    · unfold Tryz.ac100
      have hav0 : av [AV.own 2, AV.fn 102 []] 0 = AV.own 2 := rfl
      have hav1 : av [AV.own 2, AV.fn 102 []] 1 = AV.fn 102 [] := rfl
      have hk0 : keepL l i0 = l.take i0 := by
        unfold keepL
        rw [List.filter_eq_self]
        intro x hx
        obtain ⟨j, hj, rfl⟩ := List.mem_take_iff_getElem.1 hx
        have := hall j (by omega)
        rw [List.getD_eq_getElem?_getD, List.getElem?_eq_getElem (by omega)] at this
        simp only [Option.getD_some] at this
        rw [full_not, this]; rfl
      have hk1 : keepL l (i0 + 1) = l.take i0 := by
        rw [keep_step l i0 hi0, full_not, hp, hk0]; simp
      have hrow : keepL l (i0 + 1) ++ [l.getD i0 zeroSp] ++ l.drop (i0 + 1) = l := by
        rw [hk1, List.append_assoc, List.singleton_append, ← drop_cons l i0 hi0, List.take_append_drop]
      have hk1l : (keepL l (i0 + 1)).length = i0 := by rw [hk1]; simp; omega
      have hne : ((i0 : Int) == -1) = false := by simp
      have hw : IntKind.i64.wrap ((i0 : Int) + 1) = ((i0 + 1 : Nat) : Int) := by rw [wrap_i64 (by omega) (by omega)]; simp
      clear hall e hp hk0 hk1
      repeat' (first
    | (apply Awp.sreg; (case hn => (simp only [List.length_cons, List.length_nil, Nat.reduceAdd] <;> rfl)))
    | (refine st_nil ?_)
    | (apply st_a; (case hc => rfl); (case he => (simp only [go_sem, *] <;> rfl)); (case hu => (simp only [updL_nil, updL_cons] <;> rfl)); (case hp => first | trivial))
    | (apply st_cd; (case hc => (simp only [go_sem, *] <;> rfl)); (case hl => (simp only [go_sem, *] <;> rfl)); (case hn => (simp only [go_sem, *] <;> rfl)); (case hp => first | exact c0 | (have hXz := c0; simp only [go_sem, *] at hXz; exact hXz)); (case hd => first | exact .v _ | exact .any | exact .nils | (repeat' (first | exact Dry.v _ | exact Dry.any | exact Dry.nils | exact Dry.slE | refine Dry.agg ?_ | refine Dry.tup ?_ | (refine List.forall_mem_cons.2 (And.intro ?_ ?_)) | (intro cQ hQ; cases hQ; done)))); (case hm => first | decide | (simp; done)))
    | (refine Awp.skip ?_; try simp only [go_sem, *])
    | refine Awp.block ?_
    | (apply Awp.cond; (case hc => (simp only [go_sem, *] <;> rfl)); all_goals (intro hg; (try simp only [Bool.not_true, Bool.not_false, reduceCtorEq] at hg)))
    | refine Awp.seq ?_)
      refine Awp.loop (fun q : Nat × List Sp => q.1 ≤ l.length ∧ 0 < q.2.length ∧ (keepL l q.1).length + q.2.length = q.1) 100 (dS l) (fun q => l.length - q.1) (i0 + 1, [l.getD i0 zeroSp]) ⟨by dsimp only; omega, by simp, by dsimp only; rw [hk1l]; simp⟩ ?_ ?_
      · unfold dS
        dsimp only
        rw [hrow, hk1l]
        (apply Ghost.mkB []; (case hnb => rfl); (case hbx => omega); (case hinj => rfl); (case hV => (simp only [go_sem, *]) <;> (repeat' (first | refine And.intro ?_ ?_ | exact .own rfl (by decide) | (refine View.fnF ?_; (simp [AV.flat]; done))))); (case hB => (simp only [go_sem, *]) <;> (repeat' (first | exact ⟨_, rfl, .rowE (by first | rfl | omega | (simp; done) | (rw [wrap_i64] <;> (try simp only [Int.natCast_add]) <;> omega) | (simp [*]; done))⟩))))
      · rintro ⟨j, G⟩ ⟨hj, hG, hKG⟩
        dsimp only at hj hG hKG
        clear hrow hk1l hne hw c0
        have hlen : (sps (keepL l j ++ G ++ l.drop j)).length = l.length := by rw [sps_len]; simp; omega
        by_cases hlt : j < l.length
        · have hlt' : (j : Int) < l.length := by omega
          have hat : (sps (keepL l j ++ G ++ l.drop j)).getD j [] = (l.getD j zeroSp).cells := by
            rw [sps_at _ _ (by simp; omega)]
            congr 1
            simp only [List.getD_eq_getElem?_getD]
            rw [List.getElem?_append_right (by simp; omega)]
            simp [hKG]
          have hz : ((l.getD j zeroSp).cells).length = 2 := rfl
          have hst := keep_step l j hlt
          have hdr := drop_cons l j hlt
          have hc := empty_ok (l.getD j zeroSp)
          obtain ⟨g, G', rfl⟩ : ∃ g G', G = g :: G' := by
            cases G with
            | nil => simp at hG
            | cons g G' => exact ⟨g, G', rfl⟩
          have hKl : (keepL l j).length < l.length := by simp at hKG; omega
          cases hB : decide ((l.getD j zeroSp).b ≤ (l.getD j zeroSp).a)
          · rw [hB] at hc
            rw [full_not, hB] at hst
            simp only [Bool.not_false, if_true] at hst
            have hkl2 : (keepL l (j + 1)).length = (keepL l j).length + 1 := by rw [hst]; simp
            have hset : (sps (keepL l j ++ g :: G' ++ l.drop j)).set (keepL l j).length (splice ((sps (keepL l j ++ g :: G' ++ l.drop j)).getD (keepL l j).length []) 0 [.v (.int .i64 (l.getD j zeroSp).a), .v (.int .i64 (l.getD j zeroSp).b)]) = sps (keepL l (j + 1) ++ (G' ++ [l.getD j zeroSp]) ++ l.drop (j + 1)) := by
              rw [sps_at _ _ (by simp)]
              have e1 : splice ((keepL l j ++ g :: G' ++ l.drop j).getD (keepL l j).length zeroSp).cells 0 [.v (.int .i64 (l.getD j zeroSp).a), .v (.int .i64 (l.getD j zeroSp).b)] = [.v (.int .i64 (l.getD j zeroSp).a), .v (.int .i64 (l.getD j zeroSp).b)] := rfl
              rw [e1, sps_set, hst, hdr]
              congr 1
              rw [List.append_assoc, List.set_append]
              simp
            have hcells : ((sps (keepL l j ++ g :: G' ++ l.drop j)).getD (keepL l j).length []).length = 2 := by
              rw [sps_at _ _ (by simp)]; rfl
            have hinv : (keepL l (j + 1)).length + (G' ++ [l.getD j zeroSp]).length = j + 1 := by
              rw [hkl2]; simp at hKG ⊢; omega
            have hw2 : IntKind.i64.wrap (((keepL l j).length : Int) + 1) = ((keepL l (j + 1)).length : Int) := by rw [hkl2, wrap_i64 (by omega) (by omega)]; simp
            unfold dS
            dsimp only
            generalize hE : sps (keepL l j ++ g :: G' ++ l.drop j) = E at *
            generalize hk : (keepL l j).length = K at *
            generalize l.getD j zeroSp = v at *
            clear hst hdr hB hk hE hkl2
            repeat' (first
    | (apply Awp.sreg; (case hn => (simp only [List.length_cons, List.length_nil, Nat.reduceAdd] <;> rfl)))
    | (refine st_nil ?_)
    | (apply st_a; (case hc => rfl); (case he => (simp only [go_sem, *] <;> rfl)); (case hu => (simp only [updL_nil, updL_cons] <;> rfl)); (case hp => first | trivial | omega | (simp; done)))
    | (apply st_c; (case hc => (simp only [go_sem, *] <;> rfl)); (case hl => (simp only [go_sem, *] <;> rfl)); (case hn => (simp only [go_sem, *] <;> rfl)); (case hp => first | exact hc | (have hXz := hc; simp only [go_sem, *] at hXz; exact hXz)))
    | (apply Awp.reg; (case hn => (simp only [List.length_cons, List.length_nil, Nat.reduceAdd] <;> rfl)))
    | (refine Awp.skip ?_; try simp only [go_sem, *])
    | refine Awp.block ?_
    | (apply Awp.cond; (case hc => (simp only [go_sem, *] <;> rfl)); all_goals (intro hg; (try simp only [Bool.not_true, Bool.not_false, reduceCtorEq] at hg)))
    | refine Awp.seq ?_)
            refine ⟨(j + 1, G' ++ [v]), ⟨by dsimp only; omega, by simp, hinv⟩, by dsimp only; omega, ?_⟩
            dsimp only
            (apply Ghost.mkB []; (case hnb => rfl); (case hbx => omega); (case hinj => rfl); (case hV => (simp only [go_sem, *]) <;> (repeat' (first | refine And.intro ?_ ?_ | exact View.int (by first | rfl | exact hset | omega | (simp; done) | (rw [wrap_i64] <;> (try simp only [Int.natCast_add]) <;> omega) | (simp [*]; done)) | exact .own rfl (by decide) | (refine View.fnF ?_; (simp [AV.flat]; done))))); (case hB => (simp only [go_sem, *]) <;> (repeat' (first | exact ⟨_, rfl, .rowE (by first | rfl | exact hset | omega | (simp; done) | (rw [wrap_i64] <;> (try simp only [Int.natCast_add]) <;> omega) | (simp [*]; done))⟩))))
          · rw [hB] at hc
            rw [full_not, hB] at hst
            simp only [Bool.not_true, Bool.false_eq_true, if_false, List.append_nil] at hst
            have hrow2 : keepL l (j + 1) ++ (g :: G' ++ [l.getD j zeroSp]) ++ l.drop (j + 1) = keepL l j ++ g :: G' ++ l.drop j := by
              rw [hst, hdr]; simp
            have hinv : (keepL l (j + 1)).length + (g :: G' ++ [l.getD j zeroSp]).length = j + 1 := by
              rw [hst]; simp at hKG ⊢; omega
            unfold dS
            dsimp only
            rw [← hst] at hat hlen hKl hrow2 ⊢
            generalize l.getD j zeroSp = v at *
            generalize hE : sps (keepL l (j + 1) ++ g :: G' ++ l.drop j) = E at *
            clear hst hdr hB
            repeat' (first
    | (apply Awp.sreg; (case hn => (simp only [List.length_cons, List.length_nil, Nat.reduceAdd] <;> rfl)))
    | (refine st_nil ?_)
    | (apply st_a; (case hc => rfl); (case he => (simp only [go_sem, *] <;> rfl)); (case hu => (simp only [updL_nil, updL_cons] <;> rfl)); (case hp => first | trivial | omega))
    | (apply st_c; (case hc => (simp only [go_sem, *] <;> rfl)); (case hl => (simp only [go_sem, *] <;> rfl)); (case hn => (simp only [go_sem, *] <;> rfl)); (case hp => first | exact hc | (have hXz := hc; simp only [go_sem, *] at hXz; exact hXz)))
    | (apply Awp.reg; (case hn => (simp only [List.length_cons, List.length_nil, Nat.reduceAdd] <;> rfl)))
    | (refine Awp.skip ?_; try simp only [go_sem, *])
    | refine Awp.block ?_
    | (apply Awp.cond; (case hc => (simp only [go_sem, *] <;> rfl)); all_goals (intro hg; (try simp only [Bool.not_true, Bool.not_false, reduceCtorEq] at hg)))
    | refine Awp.seq ?_)
            refine ⟨(j + 1, g :: G' ++ [v]), ⟨by dsimp only; omega, by simp, hinv⟩, by dsimp only; omega, ?_⟩
            dsimp only
            rw [hrow2, hE]
            (apply Ghost.mkB []; (case hnb => rfl); (case hbx => omega); (case hinj => rfl); (case hV => (simp only [go_sem, *]) <;> (repeat' (first | refine And.intro ?_ ?_ | exact View.int (by first | rfl | omega | (simp; done) | (rw [wrap_i64] <;> (try simp only [Int.natCast_add]) <;> omega) | (simp [*]; done)) | exact .own rfl (by decide) | (refine View.fnF ?_; (simp [AV.flat]; done))))); (case hB => (simp only [go_sem, *]) <;> (repeat' (first | exact ⟨_, rfl, .rowE (by first | rfl | omega | (simp; done) | (rw [wrap_i64] <;> (try simp only [Int.natCast_add]) <;> omega) | (simp [*]; done))⟩))))
        · have hlt' : ¬ (j : Int) < l.length := by omega
          have hjl : j = l.length := by omega
          have hdr : l.drop j = [] := List.drop_eq_nil_of_le (by omega)
          have hkf : keepL l j = l.filter fullB := by unfold keepL; rw [List.take_of_length_le (by omega)]
          have hfin : (sps (keepL l j ++ G ++ l.drop j)).take (keepL l j).length ++ List.replicate ((sps (keepL l j ++ G ++ l.drop j)).length - (keepL l j).length) [AV.v (.int .i64 0), .v (.int .i64 0)] = delRow l := by
            rw [hlen]
            unfold delRow zrow
            rw [← hkf]
            congr 1
            rw [List.append_assoc, sps_append, ← sps_len (keepL l j), List.take_left]
          have hpl : (l.filter fullB).length = (keepL l j).length := by rw [hkf]
          have hKl : (keepL l j).length < l.length := by omega
          rw [hpl]
          unfold dS
          dsimp only
          generalize hE : sps (keepL l j ++ G ++ l.drop j) = E at *
          generalize (keepL l j).length = K at *
          clear hE hdr hkf hpl hjl
          repeat' (first
    | (apply Awp.sreg; (case hn => (simp only [List.length_cons, List.length_nil, Nat.reduceAdd] <;> rfl)))
    | (refine st_nil ?_)
    | (apply st_a; (case hc => rfl); (case he => (simp only [go_sem, *] <;> rfl)); (case hu => (simp only [updL_nil, updL_cons] <;> rfl)); (case hp => first | trivial | omega | (simp; omega)))
    | (refine Awp.ret ?_; try simp only [go_sem, *])
    | (refine Awp.exit ?_; try simp only [go_sem, *])
    | (apply Awp.cond; (case hc => (simp only [go_sem, *] <;> rfl)); all_goals (intro hg; (try simp only [Bool.not_true, Bool.not_false, reduceCtorEq] at hg)))
    | refine Awp.seq ?_)
          have hr : ∀ k, k < 3 → rn nm 3 k = k := fun k hk => by unfold rn; rw [if_neg (by omega)]
          refine ⟨3, Nat.le_refl _, .pre (hr 2 (by omega)) (by simp), fun k b' hk => ?_⟩
          by_cases h2 : k = 2
          · subst h2
            have e1 : b' = .row (delRow l) 2 30 := by simpa [upd] using hk.symm
            subst e1
            rw [hr 2 (by omega)]
            exact ⟨_, rfl, .row (by rw [hlen] at hfin; exact hfin)⟩
          · simp [upd, updL, listH, h2] at hk
end Go.Proofs
end
section
set_option linter.unusedVariables false
set_option linter.unusedSimpArgs false
namespace Go.Proofs
open Go Go.Ab
set_option maxHeartbeats 4000000
set_option maxRecDepth 100000
set_option linter.unusedSimpArgs false
set_option linter.unusedVariables false
attribute [local irreducible] Awp aops aopsL Go.Ab.Pure PureOwn
theorem take_snocP (l : List Sp) (i : Nat) (h : i < l.length) : l.take (i + 1) = l.take i ++ [l.getD i zeroSp] := by
  rw [List.take_add_one, List.getElem?_eq_getElem h]
  simp [List.getD_eq_getElem?_getD, h]
theorem drop_consP (l : List Sp) (j : Nat) (h : j < l.length) : l.drop j = l.getD j zeroSp :: l.drop (j + 1) := by
  rw [List.drop_eq_getElem_cons h]
  simp [List.getD_eq_getElem?_getD, h]
theorem sps_store {L : List Sp} {i : Nat} {x : Sp} (h : i < L.length) : (sps L).set i (splice ((sps L).getD i []) 0 [.v (.int .i64 x.a), .v (.int .i64 x.b)]) = sps (L.set i x) := by
  rw [sps_at _ _ h, ← sps_set]
  rfl
theorem sps_store1 {L : List Sp} {i : Nat} {v : Int} (h : i < L.length) : (sps L).set i (splice ((sps L).getD i []) 1 [.v (.int .i64 v)]) = sps (L.set i ⟨(L.getD i zeroSp).a, v⟩) := by
  rw [sps_at _ _ h, ← sps_set]
  rfl
theorem same_ok (a : List Sp) (hl : a.length < 1000000) : Pure Tryz.prog 17 [.sl (sps a), .sl (sps a)] (.v (.bool true)) := by
  have hn : ((a.length : Int) != a.length) = false := by simp
  refine fn_pure Tryz.F17 (Nat.le_of_ble_eq_true rfl) ?_; unfold Tryz.ac17
  repeat' (first
    | (apply Awp.sreg; (case hn => (simp only [List.length_cons, List.length_nil, Nat.reduceAdd] <;> rfl)))
    | (refine st_nil ?_)
    | (apply st_a; (case hc => rfl); (case he => (simp only [go_sem, *] <;> rfl)); (case hu => (simp only [updL_nil, updL_cons] <;> rfl)); (case hp => first | trivial))
    | (refine Awp.skip ?_; try simp only [go_sem, *])
    | refine Awp.block ?_
    | (apply Awp.cond; (case hc => (simp only [go_sem, *] <;> rfl)); all_goals (intro hg; (try simp only [Bool.not_true, Bool.not_false, reduceCtorEq] at hg)))
    | refine Awp.seq ?_)
  clear hn
  refine Awp.loop (fun i : Nat => i ≤ a.length) 60 (fun i => mkS [(0, .sl (sps a)), (1, .sl (sps a)), (5, .v (.int .i64 i))] []) (fun i => a.length - i) 0 (by omega) ?_ ?_
  · (apply Ghost.mk [] []; (case hdead => rfl); (case hinj => rfl); (case hV => (simp only [go_sem, *]) <;> (repeat' (first | exact View.int (by first | rfl | omega | (simp; done) | (rw [wrap_i64] <;> (try simp only [Int.natCast_add]) <;> omega) | (simp [*]; done))))); (case hB => (simp only [go_sem, *]) <;> (repeat' (first | skip; done))))
  · intro i hi
    by_cases hlt : i < a.length
    · have hlt' : (i : Int) < a.length := by omega
      have hat := sps_at a i hlt
      have hz : ((a.getD i zeroSp).cells).length = 2 := rfl
      generalize a.getD i zeroSp = x at *
      have e1 : (x.a == x.a) = true := by simp
      have e2 : (x.b == x.b) = true := by simp
      have e3 : (true ^^ true) = false := rfl
      repeat' (first
    | (apply Awp.sreg; (case hn => (simp only [List.length_cons, List.length_nil, Nat.reduceAdd] <;> rfl)))
    | (apply Awp.sdraw; (case hn => (simp only [List.length_cons, List.length_nil, Nat.reduceAdd] <;> rfl)))
    | (refine st_nil ?_)
    | (apply st_a; (case hc => rfl); (case he => (simp only [go_sem, *] <;> rfl)); (case hu => (simp only [updL_nil, updL_cons] <;> rfl)); (case hp => first | trivial))
    | (apply Awp.reg; (case hn => (simp only [List.length_cons, List.length_nil, Nat.reduceAdd] <;> rfl)))
    | (refine Awp.skip ?_; try simp only [go_sem, *])
    | refine Awp.block ?_
    | (apply Awp.cond; (case hc => (simp only [go_sem, *] <;> rfl)); all_goals (intro hg; (try simp only [Bool.not_true, Bool.not_false, reduceCtorEq] at hg)))
    | refine Awp.seq ?_
    | (apply sl_a; (case hc => rfl); (case he => (simp only [go_sem, *] <;> rfl)); (case hu => (simp only [updL_nil, updL_cons] <;> rfl)); (case hl => (simp only [List.map_cons, List.map_nil] <;> rfl)); (case hp => first | trivial | omega))
    | (refine sl_nil (And.intro (by first | exact drawOk_of (by decide +kernel) | (simp only [List.map_cons, List.map_nil]; exact drawOk_of (by decide +kernel)) | decide) ?_)))
      refine ⟨i + 1, by omega, by omega, ?_⟩
      (apply Ghost.mk [] []; (case hdead => rfl); (case hinj => rfl); (case hV => (simp only [go_sem, *]) <;> (repeat' (first | exact View.int (by first | rfl | omega | (simp; done) | (rw [wrap_i64] <;> (try simp only [Int.natCast_add]) <;> omega) | (simp [*]; done))))); (case hB => (simp only [go_sem, *]) <;> (repeat' (first | skip; done))))
    · have hlt' : ¬ (i : Int) < a.length := by omega
      repeat' (first
    | (apply Awp.sreg; (case hn => (simp only [List.length_cons, List.length_nil, Nat.reduceAdd] <;> rfl)))
    | (refine st_nil ?_)
    | (apply st_a; (case hc => rfl); (case he => (simp only [go_sem, *] <;> rfl)); (case hu => (simp only [updL_nil, updL_cons] <;> rfl)); (case hp => first | trivial))
    | (refine Awp.ret ?_; try simp only [go_sem, *])
    | (refine Awp.exit ?_; try simp only [go_sem, *])
    | (apply Awp.cond; (case hc => (simp only [go_sem, *] <;> rfl)); all_goals (intro hg; (try simp only [Bool.not_true, Bool.not_false, reduceCtorEq] at hg); (try have hg' := hg); (try simp only [decide_eq_true_eq, decide_eq_false_iff_not, Bool.and_eq_true, Bool.or_eq_false_iff, bne_iff_ne, bne_eq_false_iff_eq, beq_iff_eq, beq_eq_false_iff_ne, Int.not_lt, Int.not_le, Int.ofNat_lt, Int.ofNat_le, Int.natCast_inj] at hg')))
    | refine Awp.seq ?_)
      all_goals repeat' (first | exact Lower.bool (by first | rfl | (simp only [true_and, Bool.true_and, Bool.false_and, Bool.and_true, Bool.and_false, Bool.true_or, Bool.false_or, reduceIte, Bool.false_eq_true, *]; done) | (simp only [true_and, reduceIte, Bool.false_eq_true, *] <;> rfl) | (simp [true_and]; done) | (simp_all [true_and]; done) | omega))
def farB (s : Sp) : Bool := decide (s.a < -1099511627776) || decide (1099511627776 < s.a) || decide (s.b < -1099511627776) || decide (1099511627776 < s.b)
def nearB (l : List Sp) : Bool := l.all fun s => !farB s
end Go.Proofs
end
section
set_option linter.unusedVariables false
set_option linter.unusedSimpArgs false
namespace Go.Proofs
open Go Go.Ab
set_option maxHeartbeats 4000000
set_option maxRecDepth 100000
set_option linter.unusedSimpArgs false
set_option linter.unusedVariables false
attribute [local irreducible] Awp aops aopsL Go.Ab.Pure PureOwn
/-- A fact that simp leaves alone. -/
def Kept (p : Prop) : Prop := p
theorem Kept.out {p : Prop} (h : Kept p) : p := h
theorem ins_at (s : Sp) : ∀ (l : List Sp) (k : Nat), k ≤ l.length → (∀ j, j < k → (l.getD j zeroSp).a < s.a) → (k < l.length → ¬ (l.getD k zeroSp).a < s.a) → insS s l = l.take k ++ s :: l.drop k
  | [], k, hk, _, _ => by simp [insS]
  | t :: l, 0, hk, _, h2 => by
    have := h2 (by simp)
    simp only [List.getD_cons_zero] at this
    unfold insS
    rw [if_neg this]
    rfl
  | t :: l, k + 1, hk, h1, h2 => by
    have h0 := h1 0 (by omega)
    simp only [List.getD_cons_zero] at h0
    unfold insS
    rw [if_pos h0, ins_at s l k (by simpa using hk) (fun j hj => by have := h1 (j + 1) (by omega); simpa using this) (fun hlt => by have := h2 (by simpa using hlt); simpa using this)]
    simp
def stepI (acc : List Sp) (s : Sp) : List Sp := if fullB s = true then insS s acc else acc
theorem stepI_spec : ∀ (l acc : List Sp), acc.Pairwise (fun x y => x.a ≤ y.a) → (l.foldl stepI acc).Pairwise (fun x y => x.a ≤ y.a) ∧ ∀ x, x ∈ l.foldl stepI acc ↔ x ∈ acc ∨ x ∈ l.filter fullB
  | [], acc, h => ⟨h, fun x => by simp⟩
  | s :: l, acc, h => by
    rw [List.foldl_cons]
    unfold stepI
    by_cases hf : fullB s = true
    · rw [if_pos hf]
      have k := stepI_spec l (insS s acc) (insS_asc s acc h)
      unfold stepI at k
      refine ⟨k.1, fun x => ?_⟩
      rw [k.2 x, mem_insS, List.filter_cons_of_pos hf, List.mem_cons]
      constructor
      · rintro ((h | h) | h)
        · exact .inr (.inl h)
        · exact .inl h
        · exact .inr (.inr h)
      · rintro (h | h | h)
        · exact .inl (.inr h)
        · exact .inl (.inl h)
        · exact .inr h
    · rw [if_neg hf]
      have k := stepI_spec l acc h
      unfold stepI at k
      refine ⟨k.1, fun x => ?_⟩
      rw [k.2 x, List.filter_cons_of_neg hf]
theorem stepI_len : ∀ (l acc : List Sp), (l.foldl stepI acc).length ≤ acc.length + l.length
  | [], acc => by simp
  | s :: l, acc => by
    have h1 := stepI_len l (stepI acc s)
    have h2 : (stepI acc s).length ≤ acc.length + 1 := by
      unfold stepI
      split
      · have : ∀ l : List Sp, (insS s l).length = l.length + 1 := by
          intro l
          induction l with
          | nil => rfl
          | cons t l ih => unfold insS; split <;> simp [ih]
        rw [this]; omega
      · omega
    rw [List.foldl_cons]
    simp only [List.length_cons]
    omega
def rinL (l : List Sp) : List Sp := l.foldl stepI []
theorem rin_canon (l : List Sp) : mergeS (rinL l) = canon l := by
  have h := stepI_spec l [] List.Pairwise.nil
  exact merge_canon h.1 fun s => by unfold rinL; rw [h.2 s]; simp
theorem rin_len (l : List Sp) : (rinL l).length ≤ l.length := by have := stepI_len l []; simpa [rinL] using this
theorem rin_step (l : List Sp) (i : Nat) (h : i < l.length) : rinL (l.take (i + 1)) = stepI (rinL (l.take i)) (l.getD i zeroSp) := by
  unfold rinL
  rw [take_snocP l i h, List.foldl_append]; rfl
theorem merge_stepL (l : List Sp) (i : Nat) (h : i < l.length) : mergeS (l.take (i + 1)) = stepM (mergeS (l.take i)) (l.getD i zeroSp) := by
  unfold mergeS
  rw [take_snocP l i h, List.foldl_append]; rfl
theorem merge_len (l : List Sp) : (mergeS l).length ≤ l.length := by have := foldM_len l []; simpa [mergeS] using this
def rnS (l : List Sp) (L : List Sp) (i : Nat) : AState := mkS [(0, .sl (sps l)), (3, .own 2), (4, .v (.int .i64 i))] [(2, .row (sps L) 2 30)]
def rkS (l : List Sp) (L : List Sp) (i k : Nat) : AState := mkS [(0, .sl (sps l)), (3, .own 2), (4, .v (.int .i64 i)), (5, .v (.int .i64 k))] [(2, .row (sps L) 2 30)]
def rjS (l : List Sp) (L : List Sp) (i k : Nat) (q : Nat × Sp) : AState := mkS [(0, .sl (sps l)), (3, .own 2), (4, .v (.int .i64 i)), (5, .v (.int .i64 k)), (6, .v (.int .i64 q.1))] [(2, .row (sps (L.take q.1 ++ q.2 :: L.drop q.1)) 2 30)]
def rmS (L M : List Sp) (i : Nat) : AState := mkS [(3, .own 2), (7, .own 3), (8, .v (.int .i64 i))] [(2, .row (sps L) 2 30), (3, .row (sps M) 2 30)]
theorem rnormal_ok (l : List Sp) (hl : l.length < 100000) : PureOwn Tryz.prog 60 [.sl (sps l)] (sps (canon l)) 2 30 := by
  refine fn_own Tryz.F60 (Nat.le_of_ble_eq_true rfl) ?_; unfold Tryz.ac60
  repeat' (first
    | (apply Awp.sreg; (case hn => (simp only [List.length_cons, List.length_nil, Nat.reduceAdd] <;> rfl)))
    | (refine st_nil ?_)
    | (apply st_a; (case hc => rfl); (case he => (simp only [go_sem, *] <;> rfl)); (case hu => (simp only [updL_nil, updL_cons] <;> rfl)); (case hp => first | trivial))
    | refine Awp.block ?_
    | refine Awp.seq ?_)
  refine Awp.loop (fun i : Nat => i ≤ l.length) 200 (fun i => rnS l (rinL (l.take i)) i) (fun i => l.length - i) 0 (by omega) ?_ ?_
  · refine Ghost.trans (Ghost.name 3 2 30 rfl (by decide)) ?_
    have e1 : rinL (l.take 0) = [] := rfl
    rw [e1]
    unfold rnS
    (apply Ghost.mk [(2, 3)] []; (case hdead => rfl); (case hinj => rfl); (case hV => (simp only [go_sem, *]) <;> (repeat' (first | refine And.intro ?_ ?_ | exact View.int (by first | rfl | omega | (simp; done) | (rw [wrap_i64] <;> (try simp only [Int.natCast_add]) <;> omega) | (simp [*]; done)) | exact .own rfl (by decide)))); (case hB => (simp only [go_sem, *]) <;> (repeat' (first | exact ⟨_, rfl, .rowE (by first | rfl | omega | (simp; done) | (rw [wrap_i64] <;> (try simp only [Int.natCast_add]) <;> omega) | (simp [*]; done))⟩))))
  · intro i hi
    by_cases hlt : i < l.length
    · have hlt' : (i : Int) < l.length := by omega
      have hat := sps_at l i hlt
      have hz : ((l.getD i zeroSp).cells).length = 2 := rfl
      have hst := rin_step l i hlt
      have hLl : (rinL (l.take i)).length ≤ i := by have := rin_len (l.take i); simp at this; omega
      unfold stepI at hst
      generalize rinL (l.take i) = L at *
      cases hf : fullB (l.getD i zeroSp)
      · rw [hf] at hst
        simp only [Bool.false_eq_true, if_false] at hst
        have hB : decide ((l.getD i zeroSp).b ≤ (l.getD i zeroSp).a) = true := by
          unfold fullB at hf; exact decide_eq_true (by have := of_decide_eq_false hf; omega)
        generalize l.getD i zeroSp = s at *
        clear hf
        unfold rnS
        repeat' (first
    | (apply Awp.sreg; (case hn => (simp only [List.length_cons, List.length_nil, Nat.reduceAdd] <;> rfl)))
    | (apply Awp.sdraw; (case hn => (simp only [List.length_cons, List.length_nil, Nat.reduceAdd] <;> rfl)))
    | (refine st_nil ?_)
    | (apply st_a; (case hc => rfl); (case he => (simp only [go_sem, *] <;> rfl)); (case hu => (simp only [updL_nil, updL_cons] <;> rfl)); (case hp => first | trivial))
    | (apply Awp.reg; (case hn => (simp only [List.length_cons, List.length_nil, Nat.reduceAdd] <;> rfl)))
    | (refine Awp.skip ?_; try simp only [go_sem, *])
    | (refine Awp.exit ?_; try simp only [go_sem, *])
    | refine Awp.block ?_
    | (apply Awp.cond; (case hc => (simp only [go_sem, *] <;> rfl)); all_goals (intro hg; (try simp only [Bool.not_true, Bool.not_false, reduceCtorEq] at hg)))
    | refine Awp.seq ?_
    | (apply sl_a; (case hc => rfl); (case he => (simp only [go_sem, *] <;> rfl)); (case hu => (simp only [updL_nil, updL_cons] <;> rfl)); (case hl => (simp only [List.map_cons, List.map_nil] <;> rfl)); (case hp => first | trivial | omega))
    | (refine sl_nil (And.intro (by first | exact drawOk_of (by decide +kernel) | (simp only [List.map_cons, List.map_nil]; exact drawOk_of (by decide +kernel)) | decide) ?_)))
        refine ⟨i + 1, by omega, by omega, ?_⟩
        rw [hst]
        (apply Ghost.mk [] []; (case hdead => rfl); (case hinj => rfl); (case hV => (simp only [go_sem, *]) <;> (repeat' (first | refine And.intro ?_ ?_ | exact View.int (by first | rfl | omega | (simp; done) | (rw [wrap_i64] <;> (try simp only [Int.natCast_add]) <;> omega) | (simp [*]; done)) | exact .own rfl (by decide)))); (case hB => (simp only [go_sem, *]) <;> (repeat' (first | exact ⟨_, rfl, .rowE (by first | rfl | omega | (simp; done) | (rw [wrap_i64] <;> (try simp only [Int.natCast_add]) <;> omega) | (simp [*]; done))⟩))))
      · rw [hf] at hst
        simp only [if_true] at hst
        have hB : decide ((l.getD i zeroSp).b ≤ (l.getD i zeroSp).a) = false := by
          unfold fullB at hf; exact decide_eq_false (by have := of_decide_eq_true hf; omega)
        obtain ⟨s, hs⟩ : ∃ s, l.getD i zeroSp = s := ⟨_, rfl⟩
        rw [hs] at hat hz hst hB
        clear hf hs
        unfold rnS
        repeat' (first
    | (apply Awp.sreg; (case hn => (simp only [List.length_cons, List.length_nil, Nat.reduceAdd] <;> rfl)))
    | (apply Awp.sdraw; (case hn => (simp only [List.length_cons, List.length_nil, Nat.reduceAdd] <;> rfl)))
    | (refine st_nil ?_)
    | (apply st_a; (case hc => rfl); (case he => (simp only [go_sem, *] <;> rfl)); (case hu => (simp only [updL_nil, updL_cons] <;> rfl)); (case hp => first | trivial))
    | (refine Awp.skip ?_; try simp only [go_sem, *])
    | refine Awp.block ?_
    | (apply Awp.cond; (case hc => (simp only [go_sem, *] <;> rfl)); all_goals (intro hg; (try simp only [Bool.not_true, Bool.not_false, reduceCtorEq] at hg)))
    | refine Awp.seq ?_
    | (apply sl_a; (case hc => rfl); (case he => (simp only [go_sem, *] <;> rfl)); (case hu => (simp only [updL_nil, updL_cons] <;> rfl)); (case hl => (simp only [List.map_cons, List.map_nil] <;> rfl)); (case hp => first | trivial | omega))
    | (refine sl_nil (And.intro (by first | exact drawOk_of (by decide +kernel) | (simp only [List.map_cons, List.map_nil]; exact drawOk_of (by decide +kernel)) | decide) ?_)))
        clear hB
        refine Awp.loop (fun k : Nat => k ≤ L.length ∧ ∀ j, j < k → (L.getD j zeroSp).a < s.a) 300 (fun k => rkS l L i k) (fun k => L.length - k) 0 ⟨by omega, fun j hj => by omega⟩ ?_ ?_
        · unfold rkS
          (apply Ghost.mk [] []; (case hdead => rfl); (case hinj => rfl); (case hV => (simp only [go_sem, *]) <;> (repeat' (first | refine And.intro ?_ ?_ | exact View.int (by first | rfl | omega | (simp; done) | (rw [wrap_i64] <;> (try simp only [Int.natCast_add]) <;> omega) | (simp [*]; done)) | exact .own rfl (by decide)))); (case hB => (simp only [go_sem, *]) <;> (repeat' (first | exact ⟨_, rfl, .rowE (by first | rfl | omega | (simp; done) | (rw [wrap_i64] <;> (try simp only [Int.natCast_add]) <;> omega) | (simp [*]; done))⟩))))
        · intro k ⟨hk, hjk⟩
          have hLn := sps_len L
          by_cases hkl : k < L.length ∧ (L.getD k zeroSp).a < s.a
          · obtain ⟨hkl, hka⟩ := hkl
            have hkl' : (k : Int) < L.length := by omega
            have hka' : decide ((L.getD k zeroSp).a < s.a) = true := decide_eq_true hka
            have hatk := sps_at L k hkl
            have hzk : ((L.getD k zeroSp).cells).length = 2 := rfl
            have hnx := ltSucc hjk hka
            generalize L.getD k zeroSp = t at *
            clear hka hjk
            unfold rkS
            repeat' (first
    | (apply Awp.sdraw; (case hn => (simp only [List.length_cons, List.length_nil, Nat.reduceAdd] <;> rfl)))
    | (refine st_nil ?_)
    | (apply st_a; (case hc => rfl); (case he => (simp only [go_sem, *] <;> rfl)); (case hu => (simp only [updL_nil, updL_cons] <;> rfl)); (case hp => first | trivial))
    | (apply Awp.reg; (case hn => (simp only [List.length_cons, List.length_nil, Nat.reduceAdd] <;> rfl)))
    | (refine Awp.skip ?_; try simp only [go_sem, *])
    | refine Awp.block ?_
    | (apply Awp.cond; (case hc => (simp only [go_sem, *] <;> rfl)); all_goals (intro hg; (try simp only [Bool.not_true, Bool.not_false, reduceCtorEq] at hg)))
    | refine Awp.seq ?_
    | (apply sl_a; (case hc => rfl); (case he => (simp only [go_sem, *] <;> rfl)); (case hu => (simp only [updL_nil, updL_cons] <;> rfl)); (case hl => (simp only [List.map_cons, List.map_nil] <;> rfl)); (case hp => first | trivial))
    | (apply sl_ga; (case hb => rfl); (case hv => (simp only [go_sem, *] <;> rfl)); (case he => (simp only [go_sem, *] <;> rfl)); (case hu => (simp only [updL_nil, updL_cons] <;> rfl)); (case hl => (simp only [List.map_cons, List.map_nil] <;> rfl)); (case hp => first | trivial | omega))
    | (refine sl_nil (And.intro (by first | exact drawOk_of (by decide +kernel) | (simp only [List.map_cons, List.map_nil]; exact drawOk_of (by decide +kernel)) | decide) ?_)))
            refine ⟨k + 1, ⟨by omega, hnx⟩, by omega, ?_⟩
            (apply Ghost.mk [] []; (case hdead => rfl); (case hinj => rfl); (case hV => (simp only [go_sem, *]) <;> (repeat' (first | refine And.intro ?_ ?_ | exact View.int (by first | rfl | omega | (simp; done) | (rw [wrap_i64] <;> (try simp only [Int.natCast_add]) <;> omega) | (simp [*]; done)) | exact .own rfl (by decide)))); (case hB => (simp only [go_sem, *]) <;> (repeat' (first | exact ⟨_, rfl, .rowE (by first | rfl | omega | (simp; done) | (rw [wrap_i64] <;> (try simp only [Int.natCast_add]) <;> omega) | (simp [*]; done))⟩))))
          · have hins := ins_at s L k hk hjk (fun h => fun h2 => hkl ⟨h, h2⟩)
            have hres : Kept (rinL (l.take (i + 1)) = L.take k ++ s :: L.drop k) := hst.trans hins
            clear hjk hst hins
            have hex : (k < L.length ∧ decide ((L.getD k zeroSp).a < s.a) = false) ∨ k = L.length := by
              by_cases h : k < L.length
              · exact .inl ⟨h, decide_eq_false fun h2 => hkl ⟨h, h2⟩⟩
              · exact .inr (by omega)
            clear hkl
            have esn := sps_snoc L s
            have eon := sps_one L
            have hw1 : IntKind.i64.wrap (((L ++ [s]).length : Int) - 1) = ((L.length : Nat) : Int) := by
              rw [wrap_i64 (by simp only [List.length_append, List.length_cons, List.length_nil]; omega) (by simp only [List.length_append, List.length_cons, List.length_nil]; omega)]; simp
            rcases hex with ⟨hkl, hka⟩ | hke
            have hkl' : (k : Int) < L.length := by omega
            have hatk := sps_at L k hkl
            have hzk : ((L.getD k zeroSp).cells).length = 2 := rfl
            generalize L.getD k zeroSp = t at *
            unfold rkS
            rotate_left
            have hkl' : ¬ (k : Int) < L.length := by omega
            clear hke
            unfold rkS
            repeat' (first
    | (apply Awp.sreg; (case hn => (simp only [List.length_cons, List.length_nil, Nat.reduceAdd] <;> rfl)))
    | (apply Awp.sdraw; (case hn => (simp only [List.length_cons, List.length_nil, Nat.reduceAdd] <;> rfl)))
    | (refine st_nil ?_)
    | (apply st_a; (case hc => rfl); (case he => (simp only [go_sem, *] <;> rfl)); (case hu => (simp only [updL_nil, updL_cons] <;> rfl)); (case hp => first | trivial | omega | (simp; done) | (simp; omega)))
    | (refine Awp.exit ?_; try simp only [go_sem, *])
    | refine Awp.block ?_
    | (apply Awp.cond; (case hc => (simp only [go_sem, *] <;> rfl)); all_goals (intro hg; (try simp only [Bool.not_true, Bool.not_false, reduceCtorEq] at hg)))
    | refine Awp.seq ?_
    | (apply sl_a; (case hc => rfl); (case he => (simp only [go_sem, *] <;> rfl)); (case hu => (simp only [updL_nil, updL_cons] <;> rfl)); (case hl => (simp only [List.map_cons, List.map_nil] <;> rfl)); (case hp => first | trivial))
    | (apply sl_gn; (case hv => (simp only [go_sem, *] <;> rfl)); (case hbw => rfl))
    | (apply sl_ga; (case hb => rfl); (case hv => (simp only [go_sem, *] <;> rfl)); (case he => (simp only [go_sem, *] <;> rfl)); (case hu => (simp only [updL_nil, updL_cons] <;> rfl)); (case hl => (simp only [List.map_cons, List.map_nil] <;> rfl)); (case hp => first | trivial | omega))
    | (refine sl_nil (And.intro (by first | exact drawOk_of (by decide +kernel) | (simp only [List.map_cons, List.map_nil]; exact drawOk_of (by decide +kernel)) | decide) ?_)))
            all_goals
              refine Awp.loop (fun q : Nat × Sp => q.1 ≤ L.length ∧ k ≤ q.1) 400 (rjS l L i k) (fun q => q.1) (L.length, s) ⟨by dsimp only; omega, by dsimp only; omega⟩ ?_ ?_
              · unfold rjS
                dsimp only
                (apply Ghost.mk [(2, 323)] []; (case hdead => rfl); (case hinj => rfl); (case hV => (simp only [go_sem, *]) <;> (repeat' (first | exact .own rfl (by decide)))); (case hB => (simp only [go_sem, *]) <;> (repeat' (first | exact ⟨_, rfl, .rowE (by first | rfl | omega | (simp; done) | (rw [wrap_i64] <;> (try simp only [Int.natCast_add]) <;> omega) | (simp [*]; done))⟩))))
              · rintro ⟨j, w⟩ ⟨hj, hkj⟩
                dsimp only at hj hkj
                have hRl : (L.take j ++ w :: L.drop j).length = L.length + 1 := by simp; omega
                by_cases hjk : k < j
                · obtain ⟨m, hm⟩ : ∃ m, j = m + 1 := ⟨j - 1, by omega⟩
                  have hmL : m < L.length := by omega
                  have hw2 : IntKind.i64.wrap ((j : Int) - 1) = (m : Int) := by rw [wrap_i64 (by omega) (by omega)]; omega
                  have hjk' : decide ((k : Int) < j) = true := decide_eq_true (by omega)
                  have htk : L.take j = L.take m ++ [L.getD m zeroSp] := by rw [hm]; exact take_snocP L m hmL
                  have hdk : L.drop m = L.getD m zeroSp :: L.drop j := by rw [hm]; exact drop_consP L m hmL
                  have hatm : (sps (L.take j ++ w :: L.drop j)).getD m [] = (L.getD m zeroSp).cells := by
                    rw [sps_at _ _ (by omega), htk]
                    congr 1
                    simp only [List.getD_eq_getElem?_getD, List.append_assoc]
                    rw [List.getElem?_append_right (by simp; omega)]
                    simp [show m - min m L.length = 0 by omega]
                  have hcl : ((sps (L.take j ++ w :: L.drop j)).getD j []).length = 2 := by rw [sps_at _ _ (by omega)]; rfl
                  have hset : (sps (L.take j ++ w :: L.drop j)).set j (splice ((sps (L.take j ++ w :: L.drop j)).getD j []) 0 [.v (.int .i64 (L.getD m zeroSp).a), .v (.int .i64 (L.getD m zeroSp).b)]) = sps (L.take m ++ L.getD m zeroSp :: L.drop m) := by
                    rw [sps_store (L := L.take j ++ w :: L.drop j) (i := j) (x := L.getD m zeroSp) (by omega), hdk]
                    congr 1
                    rw [List.set_append]
                    rw [if_neg (by simp; omega)]
                    rw [show j - (L.take j).length = 0 by simp; omega]
                    rw [List.set_cons_zero, htk]
                    simp
                  have hRl2 : (sps (L.take j ++ w :: L.drop j)).length = L.length + 1 := by rw [sps_len, hRl]
                  have hjl : (j : Int) < ((L.length + 1 : Nat) : Int) := by omega
                  have hml : (m : Int) < ((L.length + 1 : Nat) : Int) := by omega
                  have hmm : m < j := by omega
                  have hkm : k ≤ m := by omega
                  have hmL2 : m ≤ L.length := by omega
                  unfold rjS
                  dsimp only
                  generalize hE : sps (L.take j ++ w :: L.drop j) = E at *
                  generalize L.getD m zeroSp = x at *
                  clear htk hdk hE hRl hm hjk
                  repeat' (first
    | (apply Awp.sreg; (case hn => (simp only [List.length_cons, List.length_nil, Nat.reduceAdd] <;> rfl)))
    | (refine st_nil ?_)
    | (apply st_a; (case hc => rfl); (case he => (simp only [go_sem, *] <;> rfl)); (case hu => (simp only [updL_nil, updL_cons] <;> rfl)); (case hp => first | trivial | omega | (simp; omega)))
    | (apply Awp.reg; (case hn => (simp only [List.length_cons, List.length_nil, Nat.reduceAdd] <;> rfl)))
    | (refine Awp.skip ?_; try simp only [go_sem, *])
    | refine Awp.block ?_
    | (apply Awp.cond; (case hc => (simp only [go_sem, *] <;> rfl)); all_goals (intro hg; (try simp only [Bool.not_true, Bool.not_false, reduceCtorEq] at hg)))
    | refine Awp.seq ?_)
                  refine ⟨(m, x), ⟨hmL2, hkm⟩, hmm, ?_⟩
                  dsimp only
                  (apply Ghost.mk [] []; (case hdead => rfl); (case hinj => rfl); (case hV => (simp only [go_sem, *]) <;> (repeat' (first | exact .own rfl (by decide)))); (case hB => (simp only [go_sem, *]) <;> (repeat' (first | exact ⟨_, rfl, .rowE (by first | rfl | exact hset | omega | (simp; done) | (rw [wrap_i64] <;> (try simp only [Int.natCast_add]) <;> omega) | (simp [*]; done))⟩))))
                · have hjk' : decide ((k : Int) < j) = false := decide_eq_false (by omega)
                  have hje : j = k := by omega
                  subst hje
                  have hcl : ((sps (L.take j ++ w :: L.drop j)).getD j []).length = 2 := by rw [sps_at _ _ (by omega)]; rfl
                  have hset : (sps (L.take j ++ w :: L.drop j)).set j (splice ((sps (L.take j ++ w :: L.drop j)).getD j []) 0 [.v (.int .i64 s.a), .v (.int .i64 s.b)]) = sps (L.take j ++ s :: L.drop j) := by
                    rw [sps_store (L := L.take j ++ w :: L.drop j) (i := j) (x := s) (by omega)]
                    congr 1
                    rw [List.set_append]
                    rw [if_neg (by simp; omega)]
                    rw [show j - (L.take j).length = 0 by simp; omega]
                    rfl
                  have hRl2 : (sps (L.take j ++ w :: L.drop j)).length = L.length + 1 := by rw [sps_len, hRl]
                  have hjl : (j : Int) < ((L.length + 1 : Nat) : Int) := by omega
                  unfold rjS
                  dsimp only
                  generalize hE : sps (L.take j ++ w :: L.drop j) = E at *
                  clear hE hRl hjk
                  repeat' (first
    | (apply Awp.sreg; (case hn => (simp only [List.length_cons, List.length_nil, Nat.reduceAdd] <;> rfl)))
    | (refine st_nil ?_)
    | (apply st_a; (case hc => rfl); (case he => (simp only [go_sem, *] <;> rfl)); (case hu => (simp only [updL_nil, updL_cons] <;> rfl)); (case hp => first | trivial | omega | (simp; done) | (simp; omega)))
    | (apply Awp.reg; (case hn => (simp only [List.length_cons, List.length_nil, Nat.reduceAdd] <;> rfl)))
    | (refine Awp.exit ?_; try simp only [go_sem, *])
    | (apply Awp.cond; (case hc => (simp only [go_sem, *] <;> rfl)); all_goals (intro hg; (try simp only [Bool.not_true, Bool.not_false, reduceCtorEq] at hg)))
    | refine Awp.seq ?_)
                  refine ⟨i + 1, by omega, by omega, ?_⟩
                  rw [hres.out]
                  (apply Ghost.mk [] []; (case hdead => rfl); (case hinj => rfl); (case hV => (simp only [go_sem, *]) <;> (repeat' (first | refine And.intro ?_ ?_ | exact View.int (by first | rfl | exact hset | omega | (simp; done) | (rw [wrap_i64] <;> (try simp only [Int.natCast_add]) <;> omega) | (simp [*]; done)) | exact .own rfl (by decide)))); (case hB => (simp only [go_sem, *]) <;> (repeat' (first | exact ⟨_, rfl, .rowE (by first | rfl | exact hset | omega | (simp; done) | (rw [wrap_i64] <;> (try simp only [Int.natCast_add]) <;> omega) | (simp [*]; done))⟩))))
    · have hlt' : ¬ (i : Int) < l.length := by omega
      have e1 : l.take i = l := List.take_of_length_le (by omega)
      rw [e1]
      have hrl := rin_len l
      rw [← rin_canon l]
      generalize rinL l = L at *
      clear e1 hlt hi
      unfold rnS
      repeat' (first
    | (apply Awp.sreg; (case hn => (simp only [List.length_cons, List.length_nil, Nat.reduceAdd] <;> rfl)))
    | (refine st_nil ?_)
    | (apply st_a; (case hc => rfl); (case he => (simp only [go_sem, *] <;> rfl)); (case hu => (simp only [updL_nil, updL_cons] <;> rfl)); (case hp => first | trivial))
    | (refine Awp.exit ?_; try simp only [go_sem, *])
    | refine Awp.block ?_
    | (apply Awp.cond; (case hc => (simp only [go_sem, *] <;> rfl)); all_goals (intro hg; (try simp only [Bool.not_true, Bool.not_false, reduceCtorEq] at hg)))
    | refine Awp.seq ?_)
      refine Awp.loop (fun i : Nat => i ≤ L.length) 200 (fun i => rmS L (mergeS (L.take i)) i) (fun i => L.length - i) 0 (by omega) ?_ ?_
      · refine Ghost.trans (Ghost.name 7 2 30 rfl (by decide)) ?_
        have e1 : mergeS (L.take 0) = [] := rfl
        rw [e1]
        unfold rmS
        (apply Ghost.mk [(3, 206)] []; (case hdead => rfl); (case hinj => rfl); (case hV => (simp only [go_sem, *]) <;> (repeat' (first | refine And.intro ?_ ?_ | exact View.int (by first | rfl | omega | (simp; done) | (rw [wrap_i64] <;> (try simp only [Int.natCast_add]) <;> omega) | (simp [*]; done)) | exact .own rfl (by decide)))); (case hB => (simp only [go_sem, *]) <;> (repeat' (first | refine And.intro ?_ ?_ | exact ⟨_, rfl, .rowE (by first | rfl | omega | (simp; done) | (rw [wrap_i64] <;> (try simp only [Int.natCast_add]) <;> omega) | (simp [*]; done))⟩))))
      · intro i hi
        by_cases hlt : i < L.length
        · have hlt' : (i : Int) < L.length := by omega
          have hat := sps_at L i hlt
          have hz : ((L.getD i zeroSp).cells).length = 2 := rfl
          have hst := merge_stepL L i hlt
          have hMl : (mergeS (L.take i)).length ≤ i := by have := merge_len (L.take i); simp at this; omega
          have hLn := sps_len L
          generalize mergeS (L.take i) = M at *
          generalize L.getD i zeroSp = s at *
          have esn := sps_snoc M s
          have eon := sps_one M
          have hMn := sps_len M
          have hw1 : IntKind.i64.wrap ((M.length : Int) - 1) = (M.length : Int) - 1 := wrap_i64 (by omega) (by omega)
          by_cases hM : M.length = 0
          · have hn : decide ((0 : Int) ≤ (M.length : Int) - 1) = false := decide_eq_false (by omega)
            unfold stepM at hst
            rw [if_neg (by omega)] at hst
            unfold rmS
            repeat' (first
    | (apply Awp.sreg; (case hn => (simp only [List.length_cons, List.length_nil, Nat.reduceAdd] <;> rfl)))
    | (apply Awp.sdraw; (case hn => (simp only [List.length_cons, List.length_nil, Nat.reduceAdd] <;> rfl)))
    | (refine st_nil ?_)
    | (apply st_a; (case hc => rfl); (case he => (simp only [go_sem, *] <;> rfl)); (case hu => (simp only [updL_nil, updL_cons] <;> rfl)); (case hp => first | trivial | omega | (simp; done)))
    | (apply Awp.reg; (case hn => (simp only [List.length_cons, List.length_nil, Nat.reduceAdd] <;> rfl)))
    | (refine Awp.skip ?_; try simp only [go_sem, *])
    | refine Awp.block ?_
    | (apply Awp.cond; (case hc => (simp only [go_sem, *] <;> rfl)); all_goals (intro hg; (try simp only [Bool.not_true, Bool.not_false, reduceCtorEq] at hg)))
    | refine Awp.seq ?_
    | (apply sl_a; (case hc => rfl); (case he => (simp only [go_sem, *] <;> rfl)); (case hu => (simp only [updL_nil, updL_cons] <;> rfl)); (case hl => (simp only [List.map_cons, List.map_nil] <;> rfl)); (case hp => first | trivial))
    | (apply sl_gn; (case hv => (simp only [go_sem, *] <;> rfl)); (case hbw => rfl))
    | (refine sl_nil (And.intro (by first | exact drawOk_of (by decide +kernel) | (simp only [List.map_cons, List.map_nil]; exact drawOk_of (by decide +kernel)) | decide) ?_)))
            refine ⟨i + 1, by omega, by omega, ?_⟩
            rw [hst]
            (apply Ghost.mk [(3, 229)] []; (case hdead => rfl); (case hinj => rfl); (case hV => (simp only [go_sem, *]) <;> (repeat' (first | refine And.intro ?_ ?_ | exact View.int (by first | rfl | omega | (simp; done) | (rw [wrap_i64] <;> (try simp only [Int.natCast_add]) <;> omega) | (simp [*]; done)) | exact .own rfl (by decide)))); (case hB => (simp only [go_sem, *]) <;> (repeat' (first | refine And.intro ?_ ?_ | exact ⟨_, rfl, .rowE (by first | rfl | omega | (simp; done) | (rw [wrap_i64] <;> (try simp only [Int.natCast_add]) <;> omega) | (simp [*]; done))⟩))))
          · obtain ⟨n, hn⟩ : ∃ n : Nat, M.length = n + 1 := ⟨M.length - 1, by omega⟩
            have hw2 : IntKind.i64.wrap ((M.length : Int) - 1) = (n : Int) := by rw [hw1]; omega
            have hn0 : decide ((0 : Int) ≤ n) = true := decide_eq_true (by omega)
            have hnM : n < M.length := by omega
            have hnM' : (n : Int) < M.length := by omega
            have hatn := sps_at M n hnM
            have hzn : ((M.getD n zeroSp).cells).length = 2 := rfl
            have hsto := fun v => sps_store1 (v := v) hnM
            unfold stepM at hst
            rw [show M.length - 1 = n by omega] at hst
            by_cases hc : s.a ≤ (M.getD n zeroSp).b
            · rw [if_pos ⟨by omega, hc⟩] at hst
              have hc' : decide (s.a ≤ (M.getD n zeroSp).b) = true := decide_eq_true hc
              have hmx : (if (M.getD n zeroSp).b < s.b then s.b else (M.getD n zeroSp).b) = max (M.getD n zeroSp).b s.b := by
                rw [Int.max_def]; split <;> split <;> omega
              have hfin : (sps M).set n [.v (.int .i64 (M.getD n zeroSp).a), .v (.int .i64 (max (M.getD n zeroSp).b s.b))] = sps (mergeS (L.take (i + 1))) := by
                rw [hst]; exact sps_set M n ⟨(M.getD n zeroSp).a, max (M.getD n zeroSp).b s.b⟩
              generalize M.getD n zeroSp = y at *
              clear hsto hw1 hc hn hst hM
              unfold rmS
              repeat' (first
    | (apply Awp.sreg; (case hn => (simp only [List.length_cons, List.length_nil, Nat.reduceAdd] <;> rfl)))
    | (apply Awp.sdraw; (case hn => (simp only [List.length_cons, List.length_nil, Nat.reduceAdd] <;> rfl)))
    | (refine st_nil ?_)
    | (apply st_a; (case hc => rfl); (case he => (simp only [go_sem, *] <;> rfl)); (case hu => (simp only [updL_nil, updL_cons] <;> rfl)); (case hp => first | trivial))
    | (apply Awp.reg; (case hn => (simp only [List.length_cons, List.length_nil, Nat.reduceAdd] <;> rfl)))
    | (refine Awp.skip ?_; try simp only [go_sem, *])
    | refine Awp.block ?_
    | (apply Awp.cond; (case hc => (simp only [go_sem, *] <;> rfl)); all_goals (intro hg; (try simp only [Bool.not_true, Bool.not_false, reduceCtorEq] at hg)))
    | refine Awp.seq ?_
    | (refine Awp.draw ?_)
    | (apply sl_a; (case hc => rfl); (case he => (simp only [go_sem, *] <;> rfl)); (case hu => (simp only [updL_nil, updL_cons] <;> rfl)); (case hl => (simp only [List.map_cons, List.map_nil] <;> rfl)); (case hp => first | trivial | omega | (simp; done)))
    | (apply sl_ga; (case hb => rfl); (case hv => (simp only [go_sem, *] <;> rfl)); (case he => (simp only [go_sem, *] <;> rfl)); (case hu => (simp only [updL_nil, updL_cons] <;> rfl)); (case hl => (simp only [List.map_cons, List.map_nil] <;> rfl)); (case hp => first | trivial | omega))
    | (refine sl_nil (And.intro (by first | exact drawOk_of (by decide +kernel) | (simp only [List.map_cons, List.map_nil]; exact drawOk_of (by decide +kernel)) | decide) ?_)))
              refine ⟨i + 1, by omega, by omega, ?_⟩
              (apply Ghost.mk [] []; (case hdead => rfl); (case hinj => rfl); (case hV => (simp only [go_sem, *]) <;> (repeat' (first | refine And.intro ?_ ?_ | exact View.int (by first | rfl | exact hfin | omega | (simp; done) | (rw [wrap_i64] <;> (try simp only [Int.natCast_add]) <;> omega) | (simp [*]; done)) | exact .own rfl (by decide)))); (case hB => (simp only [go_sem, *]) <;> (repeat' (first | refine And.intro ?_ ?_ | exact ⟨_, rfl, .rowE (by first | rfl | exact hfin | omega | (simp; done) | (rw [wrap_i64] <;> (try simp only [Int.natCast_add]) <;> omega) | (simp [*]; done))⟩))))
            · rw [if_neg (fun h => hc h.2)] at hst
              have hc' : decide (s.a ≤ (M.getD n zeroSp).b) = false := decide_eq_false hc
              generalize M.getD n zeroSp = y at *
              clear hsto hw1 hc hn hM
              unfold rmS
              repeat' (first
    | (apply Awp.sreg; (case hn => (simp only [List.length_cons, List.length_nil, Nat.reduceAdd] <;> rfl)))
    | (apply Awp.sdraw; (case hn => (simp only [List.length_cons, List.length_nil, Nat.reduceAdd] <;> rfl)))
    | (refine st_nil ?_)
    | (apply st_a; (case hc => rfl); (case he => (simp only [go_sem, *] <;> rfl)); (case hu => (simp only [updL_nil, updL_cons] <;> rfl)); (case hp => first | trivial | omega | (simp; done) | (simp; omega)))
    | (apply Awp.reg; (case hn => (simp only [List.length_cons, List.length_nil, Nat.reduceAdd] <;> rfl)))
    | (refine Awp.skip ?_; try simp only [go_sem, *])
    | refine Awp.block ?_
    | (apply Awp.cond; (case hc => (simp only [go_sem, *] <;> rfl)); all_goals (intro hg; (try simp only [Bool.not_true, Bool.not_false, reduceCtorEq] at hg)))
    | refine Awp.seq ?_
    | (apply sl_a; (case hc => rfl); (case he => (simp only [go_sem, *] <;> rfl)); (case hu => (simp only [updL_nil, updL_cons] <;> rfl)); (case hl => (simp only [List.map_cons, List.map_nil] <;> rfl)); (case hp => first | trivial))
    | (apply sl_ga; (case hb => rfl); (case hv => (simp only [go_sem, *] <;> rfl)); (case he => (simp only [go_sem, *] <;> rfl)); (case hu => (simp only [updL_nil, updL_cons] <;> rfl)); (case hl => (simp only [List.map_cons, List.map_nil] <;> rfl)); (case hp => first | trivial | omega))
    | (refine sl_nil (And.intro (by first | exact drawOk_of (by decide +kernel) | (simp only [List.map_cons, List.map_nil]; exact drawOk_of (by decide +kernel)) | decide) ?_)))
              refine ⟨i + 1, by omega, by omega, ?_⟩
              rw [hst]
              (apply Ghost.mk [(3, 229)] []; (case hdead => rfl); (case hinj => rfl); (case hV => (simp only [go_sem, *]) <;> (repeat' (first | refine And.intro ?_ ?_ | exact View.int (by first | rfl | omega | (simp; done) | (rw [wrap_i64] <;> (try simp only [Int.natCast_add]) <;> omega) | (simp [*]; done)) | exact .own rfl (by decide)))); (case hB => (simp only [go_sem, *]) <;> (repeat' (first | refine And.intro ?_ ?_ | exact ⟨_, rfl, .rowE (by first | rfl | omega | (simp; done) | (rw [wrap_i64] <;> (try simp only [Int.natCast_add]) <;> omega) | (simp [*]; done))⟩))))
        · have hlt' : ¬ (i : Int) < L.length := by omega
          have e1 : L.take i = L := List.take_of_length_le (by omega)
          rw [e1]
          have hLn := sps_len L
          unfold rmS
          repeat' (first
    | (apply Awp.sreg; (case hn => (simp only [List.length_cons, List.length_nil, Nat.reduceAdd] <;> rfl)))
    | (refine st_nil ?_)
    | (apply st_a; (case hc => rfl); (case he => (simp only [go_sem, *] <;> rfl)); (case hu => (simp only [updL_nil, updL_cons] <;> rfl)); (case hp => first | trivial))
    | (refine Awp.ret ?_; try simp only [go_sem, *])
    | (refine Awp.exit ?_; try simp only [go_sem, *])
    | (apply Awp.cond; (case hc => (simp only [go_sem, *] <;> rfl)); all_goals (intro hg; (try simp only [Bool.not_true, Bool.not_false, reduceCtorEq] at hg)))
    | refine Awp.seq ?_)
          exact ⟨_, rfl, rfl⟩
end Go.Proofs
end
section
set_option linter.unusedVariables false
set_option linter.unusedSimpArgs false
namespace Go.Proofs
open Go Go.Ab
set_option maxHeartbeats 4000000
set_option maxRecDepth 100000
set_option linter.unusedSimpArgs false
set_option linter.unusedVariables false
attribute [local irreducible] Awp aops aopsL Go.Ab.Pure PureOwn
def InR (l : List Sp) : Prop := ∀ s ∈ l, -9223372036854775808 ≤ s.a ∧ s.b ≤ 9223372036854775807
theorem canon_len (l : List Sp) : (canon l).length ≤ l.length := by
  have h1 := merge_len (rinL l)
  rw [rin_canon] at h1
  exact Nat.le_trans h1 (rin_len l)
def maxI : Int := 9223372036854775807
def totalL (l : List Sp) : Int := if 9223372036854775807 < lenS (canon l) then 9223372036854775807 else lenS (canon l)
theorem get_mem {l : List Sp} {i : Nat} (h : i < l.length) : l.getD i zeroSp ∈ l := by
  rw [List.getD_eq_getElem?_getD, List.getElem?_eq_getElem h]
  exact List.getElem_mem h
def rtS (c : List Sp) (i : Nat) : AState := mkS [(3, .v (.int .u64 (lenS (c.take i)))), (4, .own 2), (5, .v (.int .i64 i))] [(2, .row (sps c) 2 30)]
theorem sps_dry (l : List Sp) : ∀ y ∈ sps l, ∀ c ∈ y, Dry c := by
  intro y hy c hc
  obtain ⟨s, _, rfl⟩ := List.mem_map.1 hy
  simp only [Sp.cells, List.mem_cons, List.not_mem_nil, or_false] at hc
  rcases hc with rfl | rfl <;> exact .v _
def riS (a b L : List Sp) (i : Nat) : AState := mkS [(0, .sl (sps a)), (1, .sl (sps b)), (5, .own 2), (6, .v (.int .i64 i))] [(2, .row (sps L) 2 30)]
def rijS (a b L : List Sp) (i j : Nat) : AState := mkS [(0, .sl (sps a)), (1, .sl (sps b)), (5, .own 2), (6, .v (.int .i64 i)), (7, .v (.int .i64 j))] [(2, .row (sps L) 2 30)]
def meet (s t : Sp) : Sp := ⟨max s.a t.a, min s.b t.b⟩
theorem inter_step (a b : List Sp) (i : Nat) (h : i < a.length) : interL (a.take (i + 1)) b = interL (a.take i) b ++ b.map (meet (a.getD i zeroSp)) := by
  unfold interL
  rw [take_snocP a i h, List.flatMap_append]
  simp [meet]
theorem map_step (s : Sp) (b : List Sp) (j : Nat) (h : j < b.length) : (b.take (j + 1)).map (meet s) = (b.take j).map (meet s) ++ [meet s (b.getD j zeroSp)] := by
  rw [take_snocP b j h]; simp
theorem inter_len (a b : List Sp) : (interL a b).length = a.length * b.length := by
  unfold interL
  induction a with
  | nil => simp
  | cons s a ih => simp only [List.flatMap_cons, List.length_append, List.length_map, ih, List.length_cons]; rw [Nat.add_mul]; omega
theorem rinter_ok (a b : List Sp) (ha : a.length < 300) (hb : b.length < 300) : PureOwn Tryz.prog 39 [.sl (sps a), .sl (sps b)] (sps (canon (interL a b))) 2 30 := by
  have hlen : ∀ i j, i ≤ a.length → j ≤ b.length → (interL (a.take i) b).length + j ≤ 90300 := by
    intro i j hi hj
    rw [inter_len]
    have : (a.take i).length * b.length ≤ 300 * 300 := Nat.mul_le_mul (by simp; omega) (by omega)
    omega
  refine fn_own Tryz.F39 (Nat.le_of_ble_eq_true rfl) ?_; unfold Tryz.ac39
  repeat' (first
    | (apply Awp.sreg; (case hn => (simp only [List.length_cons, List.length_nil, Nat.reduceAdd] <;> rfl)))
    | (refine st_nil ?_)
    | (apply st_a; (case hc => rfl); (case he => (simp only [go_sem, *] <;> rfl)); (case hu => (simp only [updL_nil, updL_cons] <;> rfl)); (case hp => first | trivial))
    | refine Awp.block ?_
    | refine Awp.seq ?_)
  refine Awp.loop (fun i : Nat => i ≤ a.length) 200 (fun i => riS a b (interL (a.take i) b) i) (fun i => a.length - i) 0 (by omega) ?_ ?_
  · refine Ghost.trans (Ghost.name 5 2 30 rfl (by decide)) ?_
    have e1 : interL (a.take 0) b = [] := rfl
    rw [e1]
    unfold riS
    (apply Ghost.mk [(2, 3)] []; (case hdead => rfl); (case hinj => rfl); (case hV => (simp only [go_sem, *]) <;> (repeat' (first | refine And.intro ?_ ?_ | exact View.int (by first | rfl | omega | (simp; done) | (rw [wrap_i64] <;> (try simp only [Int.natCast_add]) <;> omega) | (simp [*]; done)) | exact .own rfl (by decide)))); (case hB => (simp only [go_sem, *]) <;> (repeat' (first | exact ⟨_, rfl, .rowE (by first | rfl | omega | (simp; done) | (rw [wrap_i64] <;> (try simp only [Int.natCast_add]) <;> omega) | (simp [*]; done))⟩))))
  · intro i hi
    by_cases hlt : i < a.length
    · have hlt' : (i : Int) < a.length := by omega
      have hat := sps_at a i hlt
      have hz : ((a.getD i zeroSp).cells).length = 2 := rfl
      have hst := inter_step a b i hlt
      have hl0 := hlen i
      generalize interL (a.take i) b = L at *
      obtain ⟨s, hs⟩ : ∃ s, a.getD i zeroSp = s := ⟨_, rfl⟩
      rw [hs] at hat hz hst
      have hst' : Kept (interL (a.take (i + 1)) b = L ++ b.map (meet s)) := hst
      clear hs hst hlen
      unfold riS
      repeat' (first
    | (apply Awp.sreg; (case hn => (simp only [List.length_cons, List.length_nil, Nat.reduceAdd] <;> rfl)))
    | (refine st_nil ?_)
    | (apply st_a; (case hc => rfl); (case he => (simp only [go_sem, *] <;> rfl)); (case hu => (simp only [updL_nil, updL_cons] <;> rfl)); (case hp => first | trivial))
    | (refine Awp.skip ?_; try simp only [go_sem, *])
    | refine Awp.block ?_
    | (apply Awp.cond; (case hc => (simp only [go_sem, *] <;> rfl)); all_goals (intro hg; (try simp only [Bool.not_true, Bool.not_false, reduceCtorEq] at hg)))
    | refine Awp.seq ?_)
      refine Awp.loop (fun j : Nat => j ≤ b.length) 300 (fun j => rijS a b (L ++ (b.take j).map (meet s)) i j) (fun j => b.length - j) 0 (by omega) ?_ ?_
      · have e1 : L ++ (b.take 0).map (meet s) = L := by simp
        rw [e1]
        unfold rijS
        (apply Ghost.mk [] []; (case hdead => rfl); (case hinj => rfl); (case hV => (simp only [go_sem, *]) <;> (repeat' (first | refine And.intro ?_ ?_ | exact View.int (by first | rfl | omega | (simp; done) | (rw [wrap_i64] <;> (try simp only [Int.natCast_add]) <;> omega) | (simp [*]; done)) | exact .own rfl (by decide)))); (case hB => (simp only [go_sem, *]) <;> (repeat' (first | exact ⟨_, rfl, .rowE (by first | rfl | omega | (simp; done) | (rw [wrap_i64] <;> (try simp only [Int.natCast_add]) <;> omega) | (simp [*]; done))⟩))))
      · intro j hj
        by_cases hjl : j < b.length
        · have hjl' : (j : Int) < b.length := by omega
          have hatj := sps_at b j hjl
          have hzj : ((b.getD j zeroSp).cells).length = 2 := rfl
          have hms := map_step s b j hjl
          have hl1 := hl0 j hi hj
          have hl2 : (L ++ (b.take j).map (meet s)).length = L.length + j := by simp; omega
          obtain ⟨t, ht⟩ : ∃ t, b.getD j zeroSp = t := ⟨_, rfl⟩
          rw [ht] at hatj hzj hms
          have hmx : (if s.a < t.a then t.a else s.a) = (meet s t).a := by unfold meet; dsimp only; rw [Int.max_def]; split <;> split <;> omega
          have hmn : (if t.b < s.b then t.b else s.b) = (meet s t).b := by unfold meet; dsimp only; rw [Int.min_def]; split <;> split <;> omega
          have hnext : Kept (L ++ (b.take (j + 1)).map (meet s) = L ++ (b.take j).map (meet s) ++ [meet s t]) := by unfold Kept; rw [hms, List.append_assoc]
          generalize L ++ (b.take j).map (meet s) = M at *
          generalize meet s t = u at *
          have esn := sps_snoc M u
          have eon := sps_one M
          have hMn := sps_len M
          clear hms ht
          unfold rijS
          repeat' (first
    | (apply Awp.sreg; (case hn => (simp only [List.length_cons, List.length_nil, Nat.reduceAdd] <;> rfl)))
    | (refine st_nil ?_)
    | (apply st_a; (case hc => rfl); (case he => (simp only [go_sem, *] <;> rfl)); (case hu => (simp only [updL_nil, updL_cons] <;> rfl)); (case hp => first | trivial))
    | (apply Awp.reg; (case hn => (simp only [List.length_cons, List.length_nil, Nat.reduceAdd] <;> rfl)))
    | (refine Awp.skip ?_; try simp only [go_sem, *])
    | refine Awp.block ?_
    | (apply Awp.cond; (case hc => (simp only [go_sem, *] <;> rfl)); all_goals (intro hg; (try simp only [Bool.not_true, Bool.not_false, reduceCtorEq] at hg)))
    | refine Awp.seq ?_
    | (refine Awp.draw ?_)
    | (apply sl_a; (case hc => rfl); (case he => (simp only [go_sem, *] <;> rfl)); (case hu => (simp only [updL_nil, updL_cons] <;> rfl)); (case hl => (simp only [List.map_cons, List.map_nil] <;> rfl)); (case hp => first | trivial | omega | (simp; done) | (simp; omega)))
    | (refine sl_nil (And.intro (by first | exact drawOk_of (by decide +kernel) | (simp only [List.map_cons, List.map_nil]; exact drawOk_of (by decide +kernel)) | decide) ?_)))
          refine ⟨j + 1, by omega, by omega, ?_⟩
          rw [hnext.out]
          (apply Ghost.mk [(2, 329)] []; (case hdead => rfl); (case hinj => rfl); (case hV => (simp only [go_sem, *]) <;> (repeat' (first | refine And.intro ?_ ?_ | exact View.int (by first | rfl | omega | (simp; done) | (rw [wrap_i64] <;> (try simp only [Int.natCast_add]) <;> omega) | (simp [*]; done)) | exact .own rfl (by decide)))); (case hB => (simp only [go_sem, *]) <;> (repeat' (first | exact ⟨_, rfl, .rowE (by first | rfl | omega | (simp; done) | (rw [wrap_i64] <;> (try simp only [Int.natCast_add]) <;> omega) | (simp [*]; done))⟩))))
        · have hjl' : ¬ (j : Int) < b.length := by omega
          have e1 : b.take j = b := List.take_of_length_le (by omega)
          rw [e1]
          unfold rijS
          repeat' (first
    | (apply Awp.sreg; (case hn => (simp only [List.length_cons, List.length_nil, Nat.reduceAdd] <;> rfl)))
    | (refine st_nil ?_)
    | (apply st_a; (case hc => rfl); (case he => (simp only [go_sem, *] <;> rfl)); (case hu => (simp only [updL_nil, updL_cons] <;> rfl)); (case hp => first | trivial))
    | (apply Awp.reg; (case hn => (simp only [List.length_cons, List.length_nil, Nat.reduceAdd] <;> rfl)))
    | (refine Awp.exit ?_; try simp only [go_sem, *])
    | (apply Awp.cond; (case hc => (simp only [go_sem, *] <;> rfl)); all_goals (intro hg; (try simp only [Bool.not_true, Bool.not_false, reduceCtorEq] at hg)))
    | refine Awp.seq ?_)
          refine ⟨i + 1, by omega, by omega, ?_⟩
          rw [hst'.out]
          (apply Ghost.mk [] []; (case hdead => rfl); (case hinj => rfl); (case hV => (simp only [go_sem, *]) <;> (repeat' (first | refine And.intro ?_ ?_ | exact View.int (by first | rfl | omega | (simp; done) | (rw [wrap_i64] <;> (try simp only [Int.natCast_add]) <;> omega) | (simp [*]; done)) | exact .own rfl (by decide)))); (case hB => (simp only [go_sem, *]) <;> (repeat' (first | exact ⟨_, rfl, .rowE (by first | rfl | omega | (simp; done) | (rw [wrap_i64] <;> (try simp only [Int.natCast_add]) <;> omega) | (simp [*]; done))⟩))))
    · have hlt' : ¬ (i : Int) < a.length := by omega
      have e1 : a.take i = a := List.take_of_length_le (by omega)
      rw [e1]
      have hl1 := hlen a.length 0 (by omega) (by omega)
      rw [List.take_of_length_le (Nat.le_refl _)] at hl1
      have c0 := rnormal_ok (interL a b) (by omega)
      generalize canon (interL a b) = c at *
      generalize interL a b = L at *
      clear hlen
      unfold riS
      repeat' (first
    | (apply Awp.sreg; (case hn => (simp only [List.length_cons, List.length_nil, Nat.reduceAdd] <;> rfl)))
    | (refine st_nil ?_)
    | (apply st_a; (case hc => rfl); (case he => (simp only [go_sem, *] <;> rfl)); (case hu => (simp only [updL_nil, updL_cons] <;> rfl)); (case hp => first | trivial))
    | (apply st_cod; (case hc => (simp only [go_sem, *] <;> rfl)); (case hl => (simp only [go_sem, *] <;> rfl)); (case hn => (simp only [go_sem, *] <;> rfl)); (case hp => first | exact c0 | (have hXz := c0; simp only [go_sem, *] at hXz; exact hXz)); (case hd => first | exact sps_dry _ | exact ints_dry _ | (repeat' (first | exact Dry.v _ | exact Dry.any | exact Dry.nils | exact Dry.slE | refine Dry.agg ?_ | refine Dry.tup ?_ | (refine List.forall_mem_cons.2 (And.intro ?_ ?_)) | (intro cQ hQ; cases hQ; done)))); (case hm => first | decide | (simp; done)))
    | (refine Awp.ret ?_; try simp only [go_sem, *])
    | (refine Awp.exit ?_; try simp only [go_sem, *])
    | (apply Awp.cond; (case hc => (simp only [go_sem, *] <;> rfl)); all_goals (intro hg; (try simp only [Bool.not_true, Bool.not_false, reduceCtorEq] at hg)))
    | refine Awp.seq ?_)
      all_goals exact ⟨_, rfl, rfl⟩
end Go.Proofs
end
section
set_option linter.unusedVariables false
set_option linter.unusedSimpArgs false
namespace Go.Proofs
open Go Go.Ab
set_option maxHeartbeats 4000000
set_option maxRecDepth 100000
set_option linter.unusedSimpArgs false
set_option linter.unusedVariables false
attribute [local irreducible] Awp aops aopsL Go.Ab.Pure PureOwn
theorem asc_sub : ∀ (P E : List Int), P.Pairwise (· < ·) → (∀ x ∈ P, x ∈ E) → P.length ≤ E.length
  | [], E, _, _ => by simp
  | p :: P, E, hp, h => by
    have hp' := List.pairwise_cons.1 hp
    have hpe := h p (by simp)
    have := asc_sub P (E.erase p) hp'.2 (fun x hx => (List.mem_erase_of_ne (by have := hp'.1 x hx; omega)).2 (h x (by simp [hx])))
    rw [List.length_erase_of_mem hpe] at this
    have : 0 < E.length := List.length_pos_of_mem hpe
    simp only [List.length_cons]
    omega
/-- The beginnings of a canonical form. -/
theorem rise {c : List Sp} (hc : Canon c) {s : Sp} (hs : s ∈ c) : hasS c s.a ∧ ¬ hasS c (s.a - 1) := by
  refine ⟨⟨s, hs, Int.le_refl _, hc.2 s hs⟩, fun ⟨t, ht, h1, h2⟩ => ?_⟩
  obtain ⟨i, hi, rfl⟩ := List.getElem_of_mem hs
  obtain ⟨j, hj, rfl⟩ := List.getElem_of_mem ht
  have hp := List.pairwise_iff_getElem.1 hc.1
  rcases Nat.lt_trichotomy i j with h | h | h
  · have := hp i j hi hj h
    have := hc.2 c[i] (List.getElem_mem hi)
    omega
  · subst h; omega
  · have := hp j i hj hi h
    omega
theorem canon_count {c : List Sp} (hc : Canon c) {E : List Int} (h : ∀ p, hasS c p → ¬ hasS c (p - 1) → p ∈ E) : c.length ≤ E.length := by
  have hp : (c.map (·.a)).Pairwise (· < ·) := by
    rw [List.pairwise_map]
    exact (List.Pairwise.and_mem.1 hc.1).imp fun {s t} ⟨hs, ht, hst⟩ => by have := hc.2 s hs; omega
  have := asc_sub (c.map (·.a)) E hp (fun x hx => by
    obtain ⟨s, hs, rfl⟩ := List.mem_map.1 hx
    have := rise hc hs
    exact h _ this.1 this.2)
  simpa using this
theorem start_of {a : List Sp} {p : Int} (h1 : hasS a p) (h2 : ¬ hasS a (p - 1)) : p ∈ a.map (·.a) := by
  obtain ⟨s, hs, h3, h4⟩ := h1
  by_cases h : s.a = p
  · exact List.mem_map.2 ⟨s, hs, h⟩
  · exact absurd ⟨s, hs, by omega, by omega⟩ h2
theorem end_of {b : List Sp} {p : Int} (h1 : ¬ hasS b p) (h2 : hasS b (p - 1)) : p ∈ b.map (·.b) := by
  obtain ⟨s, hs, h3, h4⟩ := h2
  by_cases h : s.b = p
  · exact List.mem_map.2 ⟨s, hs, h⟩
  · exact absurd ⟨s, hs, by omega, by omega⟩ h1
theorem minus_count {a b c : List Sp} (hc : Canon c) (h : ∀ n, hasS c n ↔ hasS a n ∧ ¬ hasS b n) : c.length ≤ a.length + b.length := by
  have := canon_count hc (E := a.map (·.a) ++ b.map (·.b)) (fun p h1 h2 => by
    rw [h] at h1 h2
    by_cases ha : hasS a (p - 1)
    · have hb : hasS b (p - 1) := Classical.not_not.1 fun hh => h2 ⟨ha, hh⟩
      exact List.mem_append.2 (.inr (end_of h1.2 hb))
    · exact List.mem_append.2 (.inl (start_of h1.1 ha)))
  simpa using this
def mkL (a b : List Sp) (k : Nat) : List Sp := (b.take k).foldl stepC (canon a)
theorem mkL_step (a b : List Sp) (k : Nat) (h : k < b.length) : mkL a b (k + 1) = stepC (mkL a b k) (b.getD k zeroSp) := by
  unfold mkL
  rw [take_snocP b k h, List.foldl_append]; rfl
theorem mkL_len (a b : List Sp) (k : Nat) : (mkL a b k).length ≤ a.length + b.length := by
  have h := minus_go (b.take k) (canon a) (canon_is a).1
  have := minus_count (a := a) (b := b.take k) h.1 (fun n => by rw [h.2 n, (canon_is a).2 n])
  have h2 : (b.take k).length ≤ b.length := by simp; omega
  show (List.foldl stepC (canon a) (b.take k)).length ≤ _
  omega
theorem minus_len (a b : List Sp) : (minusL a b).length ≤ a.length + b.length := by
  have := mkL_len a b b.length
  unfold mkL at this
  rw [List.take_of_length_le (Nat.le_refl _)] at this
  exact this
theorem cut_step (l : List Sp) (t : Sp) (i : Nat) (h : i < l.length) : cutL (l.take (i + 1)) t = cutL (l.take i) t ++ [⟨(l.getD i zeroSp).a, min (l.getD i zeroSp).b t.a⟩, ⟨max (l.getD i zeroSp).a t.b, (l.getD i zeroSp).b⟩] := by
  unfold cutL
  rw [take_snocP l i h, List.flatMap_append]
  simp
theorem cut_len (l : List Sp) (t : Sp) : (cutL l t).length = 2 * l.length := by
  unfold cutL
  induction l with
  | nil => rfl
  | cons s l ih => simp only [List.flatMap_cons, List.length_append, ih, List.length_cons, List.length_nil]; omega
def mnS (b L : List Sp) (k : Nat) : AState := mkS [(1, .sl (sps b)), (5, .own 2), (6, .v (.int .i64 k))] [(2, .row (sps L) 2 30)]
def mniS (b L N : List Sp) (k i : Nat) : AState := mkS [(1, .sl (sps b)), (5, .own 2), (6, .v (.int .i64 k)), (7, .own 3), (8, .v (.int .i64 i))] [(2, .row (sps L) 2 30), (3, .row (sps N) 2 30)]
theorem rminus_ok (a b : List Sp) (ha : a.length < 1000) (hb : b.length < 1000) : PureOwn Tryz.prog 38 [.sl (sps a), .sl (sps b)] (sps (minusL a b)) 2 30 := by
  have c0 := rnormal_ok a (by omega)
  have hml : ∀ k, (mkL a b k).length ≤ 2000 := fun k => by have := mkL_len a b k; omega
  have e0 : mkL a b 0 = canon a := rfl
  have e9 : mkL a b b.length = minusL a b := by unfold mkL minusL; rw [List.take_of_length_le (Nat.le_refl _)]
  rw [← e9]
  rw [← e0] at c0
  refine fn_own Tryz.F38 (Nat.le_of_ble_eq_true rfl) ?_; unfold Tryz.ac38
  repeat' (first
    | (apply Awp.sreg; (case hn => (simp only [List.length_cons, List.length_nil, Nat.reduceAdd] <;> rfl)))
    | (refine st_nil ?_)
    | (apply st_a; (case hc => rfl); (case he => (simp only [go_sem, *] <;> rfl)); (case hu => (simp only [updL_nil, updL_cons] <;> rfl)); (case hp => first | trivial))
    | (apply st_co; (case hc => (simp only [go_sem, *] <;> rfl)); (case hl => (simp only [go_sem, *] <;> rfl)); (case hn => (simp only [go_sem, *] <;> rfl)); (case hp => first | exact c0 | (have hXz := c0; simp only [go_sem, *] at hXz; exact hXz)))
    | refine Awp.block ?_
    | refine Awp.seq ?_)
  clear c0 e0 e9
  refine Awp.loop (fun k : Nat => k ≤ b.length) 200 (fun k => mnS b (mkL a b k) k) (fun k => b.length - k) 0 (by omega) ?_ ?_
  · unfold mnS
    (apply Ghost.mk [(2, 2)] []; (case hdead => rfl); (case hinj => rfl); (case hV => (simp only [go_sem, *]) <;> (repeat' (first | refine And.intro ?_ ?_ | exact View.int (by first | rfl | omega | (simp; done) | (rw [wrap_i64] <;> (try simp only [Int.natCast_add]) <;> omega) | (simp [*]; done)) | exact .own rfl (by decide)))); (case hB => (simp only [go_sem, *]) <;> (repeat' (first | exact ⟨_, rfl, .rowE (by first | rfl | omega | (simp; done) | (rw [wrap_i64] <;> (try simp only [Int.natCast_add]) <;> omega) | (simp [*]; done))⟩))))
  · intro k hk
    by_cases hkl : k < b.length
    · have hkl' : (k : Int) < b.length := by omega
      have hat := sps_at b k hkl
      have hz : ((b.getD k zeroSp).cells).length = 2 := rfl
      have hst := mkL_step a b k hkl
      have hl1 := hml k
      generalize mkL a b k = L at *
      obtain ⟨t, ht⟩ : ∃ t, b.getD k zeroSp = t := ⟨_, rfl⟩
      rw [ht] at hat hz hst
      unfold stepC at hst
      by_cases hf : t.a < t.b
      case neg =>
        rw [if_neg hf] at hst
        have hB : decide (t.b ≤ t.a) = true := decide_eq_true (by omega)
        have hst' : Kept (mkL a b (k + 1) = L) := hst
        clear hst ht hf hml
        unfold mnS
        repeat' (first
    | (apply Awp.sreg; (case hn => (simp only [List.length_cons, List.length_nil, Nat.reduceAdd] <;> rfl)))
    | (apply Awp.sdraw; (case hn => (simp only [List.length_cons, List.length_nil, Nat.reduceAdd] <;> rfl)))
    | (refine st_nil ?_)
    | (apply st_a; (case hc => rfl); (case he => (simp only [go_sem, *] <;> rfl)); (case hu => (simp only [updL_nil, updL_cons] <;> rfl)); (case hp => first | trivial))
    | (apply Awp.reg; (case hn => (simp only [List.length_cons, List.length_nil, Nat.reduceAdd] <;> rfl)))
    | (refine Awp.skip ?_; try simp only [go_sem, *])
    | (refine Awp.exit ?_; try simp only [go_sem, *])
    | refine Awp.block ?_
    | (apply Awp.cond; (case hc => (simp only [go_sem, *] <;> rfl)); all_goals (intro hg; (try simp only [Bool.not_true, Bool.not_false, reduceCtorEq] at hg)))
    | refine Awp.seq ?_
    | (apply sl_a; (case hc => rfl); (case he => (simp only [go_sem, *] <;> rfl)); (case hu => (simp only [updL_nil, updL_cons] <;> rfl)); (case hl => (simp only [List.map_cons, List.map_nil] <;> rfl)); (case hp => first | trivial | omega))
    | (refine sl_nil (And.intro (by first | exact drawOk_of (by decide +kernel) | (simp only [List.map_cons, List.map_nil]; exact drawOk_of (by decide +kernel)) | decide) ?_)))
        refine ⟨k + 1, by omega, by omega, ?_⟩
        rw [hst'.out]
        (apply Ghost.mk [] []; (case hdead => rfl); (case hinj => rfl); (case hV => (simp only [go_sem, *]) <;> (repeat' (first | refine And.intro ?_ ?_ | exact View.int (by first | rfl | omega | (simp; done) | (rw [wrap_i64] <;> (try simp only [Int.natCast_add]) <;> omega) | (simp [*]; done)) | exact .own rfl (by decide)))); (case hB => (simp only [go_sem, *]) <;> (repeat' (first | exact ⟨_, rfl, .rowE (by first | rfl | omega | (simp; done) | (rw [wrap_i64] <;> (try simp only [Int.natCast_add]) <;> omega) | (simp [*]; done))⟩))))
      rw [if_pos hf] at hst
      have hB : decide (t.b ≤ t.a) = false := decide_eq_false (by omega)
      have hst' : Kept (mkL a b (k + 1) = canon (cutL L t)) := hst
      clear hst ht hf hml
      unfold mnS
      repeat' (first
    | (apply Awp.sreg; (case hn => (simp only [List.length_cons, List.length_nil, Nat.reduceAdd] <;> rfl)))
    | (apply Awp.sdraw; (case hn => (simp only [List.length_cons, List.length_nil, Nat.reduceAdd] <;> rfl)))
    | (refine st_nil ?_)
    | (apply st_a; (case hc => rfl); (case he => (simp only [go_sem, *] <;> rfl)); (case hu => (simp only [updL_nil, updL_cons] <;> rfl)); (case hp => first | trivial))
    | (refine Awp.skip ?_; try simp only [go_sem, *])
    | refine Awp.block ?_
    | (apply Awp.cond; (case hc => (simp only [go_sem, *] <;> rfl)); all_goals (intro hg; (try simp only [Bool.not_true, Bool.not_false, reduceCtorEq] at hg)))
    | refine Awp.seq ?_
    | (apply sl_a; (case hc => rfl); (case he => (simp only [go_sem, *] <;> rfl)); (case hu => (simp only [updL_nil, updL_cons] <;> rfl)); (case hl => (simp only [List.map_cons, List.map_nil] <;> rfl)); (case hp => first | trivial | omega))
    | (refine sl_nil (And.intro (by first | exact drawOk_of (by decide +kernel) | (simp only [List.map_cons, List.map_nil]; exact drawOk_of (by decide +kernel)) | decide) ?_)))
      refine Awp.loop (fun i : Nat => i ≤ L.length) 300 (fun i => mniS b L (cutL (L.take i) t) k i) (fun i => L.length - i) 0 (by omega) ?_ ?_
      · refine Ghost.trans (Ghost.name 7 2 30 rfl (by decide)) ?_
        have e1 : cutL (L.take 0) t = [] := rfl
        rw [e1]
        unfold mniS
        (apply Ghost.mk [(3, 217)] []; (case hdead => rfl); (case hinj => rfl); (case hV => (simp only [go_sem, *]) <;> (repeat' (first | refine And.intro ?_ ?_ | exact View.int (by first | rfl | omega | (simp; done) | (rw [wrap_i64] <;> (try simp only [Int.natCast_add]) <;> omega) | (simp [*]; done)) | exact .own rfl (by decide)))); (case hB => (simp only [go_sem, *]) <;> (repeat' (first | refine And.intro ?_ ?_ | exact ⟨_, rfl, .rowE (by first | rfl | omega | (simp; done) | (rw [wrap_i64] <;> (try simp only [Int.natCast_add]) <;> omega) | (simp [*]; done))⟩))))
      · intro i hi
        have hLn := sps_len L
        by_cases hil : i < L.length
        · have hil' : (i : Int) < L.length := by omega
          have hati := sps_at L i hil
          have hzi : ((L.getD i zeroSp).cells).length = 2 := rfl
          have hcs := cut_step L t i hil
          have hcl : (cutL (L.take i) t).length ≤ 2 * i := by rw [cut_len]; simp; omega
          obtain ⟨s, hs⟩ : ∃ s, L.getD i zeroSp = s := ⟨_, rfl⟩
          rw [hs] at hati hzi hcs
          have hmn : (if t.a < s.b then t.a else s.b) = min s.b t.a := by rw [Int.min_def]; split <;> split <;> omega
          have hmx : (if s.a < t.b then t.b else s.a) = max s.a t.b := by rw [Int.max_def]; split <;> split <;> omega
          have hnext : Kept (cutL (L.take (i + 1)) t = cutL (L.take i) t ++ [⟨s.a, min s.b t.a⟩] ++ [⟨max s.a t.b, s.b⟩]) := by unfold Kept; rw [hcs]; simp
          generalize cutL (L.take i) t = N at *
          have esn := sps_snoc N ⟨s.a, min s.b t.a⟩
          have esn2 := sps_snoc (N ++ [⟨s.a, min s.b t.a⟩]) ⟨max s.a t.b, s.b⟩
          have eon := sps_one N
          have hMn := sps_len N
          have eon2 := sps_one (N ++ [⟨s.a, min s.b t.a⟩])
          have hMn2 : (sps (N ++ [⟨s.a, min s.b t.a⟩])).length = N.length + 1 := by rw [sps_len]; simp
          dsimp only at esn esn2
          clear hcs hs
          unfold mniS
          repeat' (first
    | (apply Awp.sreg; (case hn => (simp only [List.length_cons, List.length_nil, Nat.reduceAdd] <;> rfl)))
    | (apply Awp.sdraw; (case hn => (simp only [List.length_cons, List.length_nil, Nat.reduceAdd] <;> rfl)))
    | (refine st_nil ?_)
    | (apply st_a; (case hc => rfl); (case he => (simp only [go_sem, *] <;> rfl)); (case hu => (simp only [updL_nil, updL_cons] <;> rfl)); (case hp => first | trivial))
    | (apply Awp.reg; (case hn => (simp only [List.length_cons, List.length_nil, Nat.reduceAdd] <;> rfl)))
    | (refine Awp.skip ?_; try simp only [go_sem, *])
    | refine Awp.block ?_
    | (apply Awp.cond; (case hc => (simp only [go_sem, *] <;> rfl)); all_goals (intro hg; (try simp only [Bool.not_true, Bool.not_false, reduceCtorEq] at hg)))
    | refine Awp.seq ?_
    | (refine Awp.draw ?_)
    | (apply sl_a; (case hc => rfl); (case he => (simp only [go_sem, *] <;> rfl)); (case hu => (simp only [updL_nil, updL_cons] <;> rfl)); (case hl => (simp only [List.map_cons, List.map_nil] <;> rfl)); (case hp => first | trivial | omega | (simp; done) | (simp; omega)))
    | (refine sl_nil (And.intro (by first | exact drawOk_of (by decide +kernel) | (simp only [List.map_cons, List.map_nil]; exact drawOk_of (by decide +kernel)) | decide) ?_)))
          refine ⟨i + 1, by omega, by omega, ?_⟩
          rw [hnext.out]
          (apply Ghost.mk [(3, 344)] []; (case hdead => rfl); (case hinj => rfl); (case hV => (simp only [go_sem, *]) <;> (repeat' (first | refine And.intro ?_ ?_ | exact View.int (by first | rfl | omega | (simp; done) | (rw [wrap_i64] <;> (try simp only [Int.natCast_add]) <;> omega) | (simp [*]; done)) | exact .own rfl (by decide)))); (case hB => (simp only [go_sem, *]) <;> (repeat' (first | refine And.intro ?_ ?_ | exact ⟨_, rfl, .rowE (by first | rfl | omega | (simp; done) | (rw [wrap_i64] <;> (try simp only [Int.natCast_add]) <;> omega) | (simp [*]; done))⟩))))
        · have hil' : ¬ (i : Int) < L.length := by omega
          have e1 : L.take i = L := List.take_of_length_le (by omega)
          rw [e1]
          have hcl := cut_len L t
          have c1 := rnormal_ok (cutL L t) (by omega)
          generalize cutL L t = N at *
          clear e1
          unfold mniS
          repeat' (first
    | (apply Awp.sreg; (case hn => (simp only [List.length_cons, List.length_nil, Nat.reduceAdd] <;> rfl)))
    | (refine st_nil ?_)
    | (apply st_a; (case hc => rfl); (case he => (simp only [go_sem, *] <;> rfl)); (case hu => (simp only [updL_nil, updL_cons] <;> rfl)); (case hp => first | trivial))
    | (apply st_cod; (case hc => (simp only [go_sem, *] <;> rfl)); (case hl => (simp only [go_sem, *] <;> rfl)); (case hn => (simp only [go_sem, *] <;> rfl)); (case hp => first | exact c1 | (have hXz := c1; simp only [go_sem, *] at hXz; exact hXz)); (case hd => first | exact sps_dry _ | exact ints_dry _ | (repeat' (first | exact Dry.v _ | exact Dry.any | exact Dry.nils | exact Dry.slE | refine Dry.agg ?_ | refine Dry.tup ?_ | (refine List.forall_mem_cons.2 (And.intro ?_ ?_)) | (intro cQ hQ; cases hQ; done)))); (case hm => first | decide | (simp; done)))
    | (apply Awp.reg; (case hn => (simp only [List.length_cons, List.length_nil, Nat.reduceAdd] <;> rfl)))
    | (refine Awp.exit ?_; try simp only [go_sem, *])
    | (apply Awp.cond; (case hc => (simp only [go_sem, *] <;> rfl)); all_goals (intro hg; (try simp only [Bool.not_true, Bool.not_false, reduceCtorEq] at hg)))
    | refine Awp.seq ?_)
          refine ⟨k + 1, by omega, by omega, ?_⟩
          rw [hst'.out]
          (apply Ghost.mk [(2, 305)] []; (case hdead => rfl); (case hinj => rfl); (case hV => (simp only [go_sem, *]) <;> (repeat' (first | refine And.intro ?_ ?_ | exact View.int (by first | rfl | omega | (simp; done) | (rw [wrap_i64] <;> (try simp only [Int.natCast_add]) <;> omega) | (simp [*]; done)) | exact .own rfl (by decide)))); (case hB => (simp only [go_sem, *]) <;> (repeat' (first | exact ⟨_, rfl, .rowE (by first | rfl | omega | (simp; done) | (rw [wrap_i64] <;> (try simp only [Int.natCast_add]) <;> omega) | (simp [*]; done))⟩))))
    · have hkl' : ¬ (k : Int) < b.length := by omega
      have e1 : k = b.length := by omega
      subst e1
      unfold mnS
      repeat' (first
    | (apply Awp.sreg; (case hn => (simp only [List.length_cons, List.length_nil, Nat.reduceAdd] <;> rfl)))
    | (refine st_nil ?_)
    | (apply st_a; (case hc => rfl); (case he => (simp only [go_sem, *] <;> rfl)); (case hu => (simp only [updL_nil, updL_cons] <;> rfl)); (case hp => first | trivial))
    | (refine Awp.ret ?_; try simp only [go_sem, *])
    | (refine Awp.exit ?_; try simp only [go_sem, *])
    | (apply Awp.cond; (case hc => (simp only [go_sem, *] <;> rfl)); all_goals (intro hg; (try simp only [Bool.not_true, Bool.not_false, reduceCtorEq] at hg)))
    | refine Awp.seq ?_)
      exact ⟨_, rfl, rfl⟩
end Go.Proofs
end
section
set_option linter.unusedVariables false
set_option linter.unusedSimpArgs false
namespace Go.Proofs
open Go Go.Ab Go.Shelf Go.RowKit Go.Lib Go.Sort
set_option maxRecDepth 100000
set_option linter.unusedSimpArgs false
set_option linter.unusedVariables false
theorem ltA (x y : Int × Int) : ltOf (fun x y : Int × Int => Lib.compareInt x.1 y.1) x y = decide (x.1 < y.1) := by
  unfold ltOf Lib.compareInt
  by_cases h1 : x.1 < y.1
  · simp [h1]
  · by_cases h2 : y.1 < x.1 <;> simp [h1, h2]
theorem swoA : SWO (ltOf fun x y : Int × Int => Lib.compareInt x.1 y.1) where
  irrefl x := by rw [ltA]; simp
  trans x y z h1 h2 := by rw [ltA] at *; simp at *; omega
  ntrans x y z h1 h2 := by rw [ltA] at *; simp at *; omega
set_option maxHeartbeats 1000000 in
theorem closure36 (x y : Int × Int) (W : World) : Calls Tryz.prog 104 #[.agg #[.int .i64 x.1, .int .i64 x.2], .agg #[.int .i64 y.1, .int .i64 y.2]] W fun e w' => e = .returned (.int .i64 (Lib.compareInt x.1 y.1)) ∧ ∃ q os', w' = grow (W.drewN q) os' := by
  have hcon := fun W' => AnyG.cmp_Compare_int Tryz.cmpInt x.1 y.1 W'
  change ∀ W', Calls Tryz.prog 105 _ _ _ at hcon
  generalize Lib.compareInt x.1 y.1 = r at hcon ⊢
  go_enter Tryz.func104, Tryz.ntmps104
  go_wp2_with (go_at_call 105; refine (hcon _).mono ?_; rintro e w' ⟨rfl, rfl⟩)
  go_ret
  exact ⟨rfl, 0, _, by rw [alloc_eq_grow, alloc_eq_grow, grow_grow]; rfl⟩
def toP (s : Sp) : Int × Int := (s.a, s.b)
def ofP (p : Int × Int) : Sp := ⟨p.1, p.2⟩
theorem prs_to (l : List Sp) : prs (l.map toP) = sps l := by simp [prs, sps, toP, Sp.cells]
theorem prs_of (l : List (Int × Int)) : prs l = sps (l.map ofP) := by simp [prs, sps, ofP, Sp.cells]
theorem sort35_cc (l t : List Sp) (hl : l.length < 1000000) : ∃ m : List Sp, (∀ x, x ∈ m ↔ x ∈ l) ∧ m.length = l.length ∧ m.Pairwise (fun x y => x.a ≤ y.a) ∧
    ∀ b nm, CallC Tryz.prog 103 [.pre b m.length, .fn 104 []] [(b, .row (sps (l ++ t)) 2 30)] nm (.tup []) [(b, some (.row (sps (m ++ t)) 2 30))] := by
  have hs := sortP_spec (fun x y => Lib.compareInt x.1 y.1) swoA (l.map toP)
  have hlen := sortP_len (fun x y => Lib.compareInt x.1 y.1) swoA (l.map toP)
  have key := fun b nm => sortF_cc Tryz.sortIv (fun w => Tryz.isAgg30 w) (fun w => Tryz.sizeOf30 w) ⟨_, Tryz.func103, by kernel_rfl, by kernel_rfl⟩ (fun x y => Lib.compareInt x.1 y.1) swoA 104 (enters_of Tryz.func104 (by kernel_rfl) rfl) closure36 (l.map toP) (t.map toP) b nm 30 (by simpa using hl)
  refine ⟨(sortP (fun x y => Lib.compareInt x.1 y.1) (l.map toP)).map ofP, fun x => ?_, by simpa using hlen, ?_, fun b nm => ?_⟩
  · rw [List.mem_map]
    constructor
    · rintro ⟨p, hp, rfl⟩
      have := hs.1.mem_iff.1 hp
      obtain ⟨s, hs', rfl⟩ := List.mem_map.1 this
      exact hs'
    · intro hx
      exact ⟨toP x, hs.1.mem_iff.2 (List.mem_map.2 ⟨x, hx, rfl⟩), rfl⟩
  · rw [List.pairwise_map]
    refine hs.2.imp fun {x y} h => ?_
    rw [ltA] at h
    have := of_decide_eq_false h
    show x.1 ≤ y.1
    omega
  · have h := key b nm
    rw [prs_append, prs_to, prs_to, prs_append, prs_of, prs_to] at h
    rw [sps_append l t, sps_append _ t]
    have e1 : ((sortP (fun x y => Lib.compareInt x.1 y.1) (l.map toP)).map ofP).length = (l.map toP).length := by simpa using hlen
    rw [e1]
    exact h
theorem clone33 (l : List Sp) (hl : l.length < 1000000) : PureOwn Tryz.prog 101 [.sl (sps l)] (sps l) 2 30 := by
  have h := clone_of Tryz.cloneSp ⟨_, Tryz.func101, by kernel_rfl, by kernel_rfl⟩ _ _ 2 16 (show Tryz.prog.info? (Tryz.cloneSp_ren.t 23) = some _ from rfl) rfl rfl rfl rfl (by omega) (fun w => Tryz.sizeOf30 w) (sps l) (sps_one l) (by rw [sps_len]; omega)
  exact h
end Go.Proofs
end
section
set_option linter.unusedVariables false
set_option linter.unusedSimpArgs false
namespace Go.Proofs
open Go Go.Ab
set_option maxRecDepth 100000
theorem grow52 (n : Nat) (hn : n < 1000000) (nm : Nat) : CallC Tryz.prog 106 [.nils, .v (.int .i64 n)] [] nm (.own nm) [(nm, some (.row [] 2 30))] := by
  obtain ⟨i0, hi⟩ : ∃ i0, Tryz.prog.info? 30 = some i0 := ⟨_, rfl⟩
  have h := grow_cc Tryz.growSp ⟨_, Tryz.func106, by kernel_rfl, by kernel_rfl⟩ _ _ (show Tryz.prog.info? (Tryz.growSp_ren.t 25) = some _ from rfl) rfl (by decide) rfl (by decide) n hn nm
  exact h
end Go.Proofs
end
section
set_option linter.unusedVariables false
set_option linter.unusedSimpArgs false
namespace Go.Proofs
open Go Go.Ab
set_option maxHeartbeats 4000000
set_option maxRecDepth 100000
set_option linter.unusedSimpArgs false
set_option linter.unusedVariables false
attribute [local irreducible] Awp aops aopsL Go.Ab.Pure PureOwn
def nmS (m T M : List Sp) (i : Nat) : AState := mkS [(4, .own 3), (13, .pre 2 m.length), (14, .v (.int .i64 m.length)), (15, .v (.int .i64 i))] [(2, .row (sps (m ++ T)) 2 30), (3, .row (sps M) 2 30)]
theorem sps_rep (n : Nat) : sps (List.replicate n zeroSp) = List.replicate n zrow := by simp [sps, zeroSp, Sp.cells, zrow]
theorem normal_ok (l : List Sp) (hl : l.length < 100000) : PureOwn Tryz.prog 86 [.sl (sps l)] (sps (canon l)) 2 30 := by
  have c0 := clone33 l (by omega)
  have hkl : (l.filter fullB).length ≤ l.length := List.length_filter_le _ _
  have c1 := fun nm h => del_cc l nm hl h
  have hdr : delRow l = sps (l.filter fullB ++ List.replicate (l.length - (l.filter fullB).length) zeroSp) := by
    unfold delRow; rw [sps_append, sps_rep]
  rw [hdr] at c1
  obtain ⟨m, hm, hml, hmp, c2⟩ := sort35_cc (l.filter fullB) (List.replicate (l.length - (l.filter fullB).length) zeroSp) (by omega)
  have hcan := merge_canon hmp hm
  rw [← hcan]
  generalize List.replicate (l.length - (l.filter fullB).length) zeroSp = T at *
  rw [← hml] at c1
  have hmb : m.length < 100000 := by omega
  generalize l.filter fullB = F at *
  clear hdr hkl hm hml hmp hcan
  refine fn_own Tryz.F86 (Nat.le_of_ble_eq_true rfl) ?_; unfold Tryz.ac86
  repeat' (first
    | (apply Awp.sreg; (case hn => (simp only [List.length_cons, List.length_nil, Nat.reduceAdd] <;> rfl)))
    | (refine st_nil ?_)
    | (apply st_a; (case hc => rfl); (case he => (simp only [go_sem, *] <;> rfl)); (case hu => (simp only [updL_nil, updL_cons] <;> rfl)); (case hp => first | trivial))
    | (apply st_co; (case hc => (simp only [go_sem, *] <;> rfl)); (case hl => (simp only [go_sem, *] <;> rfl)); (case hn => (simp only [go_sem, *] <;> rfl)); (case hp => first | exact c0 | (have hXz := c0; simp only [go_sem, *] at hXz; exact hXz)))
    | (apply st_cc; (case hc => (simp only [go_sem, *] <;> rfl)); (case hcc => exact (c1 _ (by omega))); (case hh => (first | (simp only [List.mem_singleton, forall_eq]; first | (simp only [go_sem, *] <;> rfl) | (simp only [go_sem, *]; simp [ints])) | (intro p hp; cases hp; done) | (intro p hp; simp only [List.mem_cons, List.not_mem_nil, or_false] at hp; rcases hp with rfl | rfl | rfl | rfl | rfl | rfl | rfl <;> (simp only [go_sem, *] <;> rfl)) | (intro p hp; simp only [List.mem_cons, List.not_mem_nil, or_false] at hp; rcases hp with rfl | rfl | rfl | rfl <;> (simp only [go_sem, *] <;> rfl)))); (case hu => (first | (simp; done) | decide)); (case hm => (first | decide | (simp; done))); (case hw => (simp only [updL_nil, updL_cons] <;> rfl)))
    | (apply st_cc; (case hc => (simp only [go_sem, *] <;> rfl)); (case hcc => exact (c2 _ _)); (case hh => (first | (simp only [List.mem_singleton, forall_eq]; first | (simp only [go_sem, *] <;> rfl) | (simp only [go_sem, *]; simp [ints])) | (intro p hp; cases hp; done) | (intro p hp; simp only [List.mem_cons, List.not_mem_nil, or_false] at hp; rcases hp with rfl | rfl | rfl | rfl | rfl | rfl | rfl <;> (simp only [go_sem, *] <;> rfl)) | (intro p hp; simp only [List.mem_cons, List.not_mem_nil, or_false] at hp; rcases hp with rfl | rfl | rfl | rfl <;> (simp only [go_sem, *] <;> rfl)))); (case hu => (first | (simp; done) | decide)); (case hm => (first | decide | (simp; done))); (case hw => (simp only [updL_nil, updL_cons] <;> rfl)))
    | refine Awp.block ?_
    | refine Awp.seq ?_)
  clear c0 c1 c2
  refine Awp.loop (fun i : Nat => i ≤ m.length) 200 (fun i => nmS m T (mergeS (m.take i)) i) (fun i => m.length - i) 0 (by omega) ?_ ?_
  · refine Ghost.trans (Ghost.name 4 2 30 rfl (by decide)) ?_
    have e1 : mergeS (m.take 0) = [] := rfl
    rw [e1]
    unfold nmS
    (apply Ghost.mk [(3, 11)] []; (case hdead => rfl); (case hinj => rfl); (case hV => (simp only [go_sem, *]) <;> (repeat' (first | refine And.intro ?_ ?_ | exact View.int (by first | rfl | omega | (simp; done) | (rw [wrap_i64] <;> (try simp only [Int.natCast_add]) <;> omega) | (simp [*]; done)) | exact .own rfl (by decide) | exact .pre rfl (by decide)))); (case hB => (simp only [go_sem, *]) <;> (repeat' (first | refine And.intro ?_ ?_ | exact ⟨_, rfl, .rowE (by first | rfl | omega | (simp; done) | (rw [wrap_i64] <;> (try simp only [Int.natCast_add]) <;> omega) | (simp [*]; done))⟩))))
  · intro i hi
    have hmT : (sps (m ++ T)).length = m.length + T.length := by rw [sps_len]; simp
    by_cases hlt : i < m.length
    · have hlt' : (i : Int) < m.length := by omega
      have hat : (sps (m ++ T)).getD i [] = (m.getD i zeroSp).cells := by
        rw [sps_at _ _ (by simp; omega)]
        congr 1
        simp only [List.getD_eq_getElem?_getD]
        rw [List.getElem?_append_left hlt]
      have hz : ((m.getD i zeroSp).cells).length = 2 := rfl
      have hst := merge_stepL m i hlt
      have hMl : (mergeS (m.take i)).length ≤ i := by have := merge_len (m.take i); simp at this; omega
      generalize mergeS (m.take i) = M at *
      generalize m.getD i zeroSp = s at *
      have esn := sps_snoc M s
      have eon := sps_one M
      have hMn := sps_len M
      by_cases hM : M.length = 0
      · have hn : decide ((0 : Int) < (M.length : Int)) = false := decide_eq_false (by omega)
        unfold stepM at hst
        rw [if_neg (by omega)] at hst
        have hst' : Kept (mergeS (m.take (i + 1)) = M ++ [s]) := hst
        clear hst hM
        unfold nmS
        repeat' (first
    | (apply Awp.sreg; (case hn => (simp only [List.length_cons, List.length_nil, Nat.reduceAdd] <;> rfl)))
    | (apply Awp.sdraw; (case hn => (simp only [List.length_cons, List.length_nil, Nat.reduceAdd] <;> rfl)))
    | (refine st_nil ?_)
    | (apply st_a; (case hc => rfl); (case he => (simp only [go_sem, *] <;> rfl)); (case hu => (simp only [updL_nil, updL_cons] <;> rfl)); (case hp => first | trivial | omega | (simp; done) | (simp; omega)))
    | (apply Awp.reg; (case hn => (simp only [List.length_cons, List.length_nil, Nat.reduceAdd] <;> rfl)))
    | (refine Awp.skip ?_; try simp only [go_sem, *])
    | refine Awp.block ?_
    | (apply Awp.cond; (case hc => (simp only [go_sem, *] <;> rfl)); all_goals (intro hg; (try simp only [Bool.not_true, Bool.not_false, reduceCtorEq] at hg)))
    | refine Awp.seq ?_
    | (apply sl_a; (case hc => rfl); (case he => (simp only [go_sem, *] <;> rfl)); (case hu => (simp only [updL_nil, updL_cons] <;> rfl)); (case hl => (simp only [List.map_cons, List.map_nil] <;> rfl)); (case hp => first | trivial))
    | (apply sl_gn; (case hv => (simp only [go_sem, *] <;> rfl)); (case hbw => rfl))
    | (refine sl_nil (And.intro (by first | exact drawOk_of (by decide +kernel) | (simp only [List.map_cons, List.map_nil]; exact drawOk_of (by decide +kernel)) | decide) ?_)))
        refine ⟨i + 1, by omega, by omega, ?_⟩
        rw [hst'.out]
        (apply Ghost.mk [(3, 224)] []; (case hdead => rfl); (case hinj => rfl); (case hV => (simp only [go_sem, *]) <;> (repeat' (first | refine And.intro ?_ ?_ | exact View.int (by first | rfl | omega | (simp; done) | (rw [wrap_i64] <;> (try simp only [Int.natCast_add]) <;> omega) | (simp [*]; done)) | exact .own rfl (by decide) | exact .pre rfl (by decide)))); (case hB => (simp only [go_sem, *]) <;> (repeat' (first | refine And.intro ?_ ?_ | exact ⟨_, rfl, .rowE (by first | rfl | omega | (simp; done) | (rw [wrap_i64] <;> (try simp only [Int.natCast_add]) <;> omega) | (simp [*]; done))⟩))))
      · obtain ⟨n, hn⟩ : ∃ n : Nat, M.length = n + 1 := ⟨M.length - 1, by omega⟩
        have hw2 : IntKind.i64.wrap ((M.length : Int) - 1) = (n : Int) := by rw [wrap_i64 (by omega) (by omega)]; omega
        have hn0 : decide ((0 : Int) < (M.length : Int)) = true := decide_eq_true (by omega)
        have hnM : n < M.length := by omega
        have hnM' : (n : Int) < M.length := by omega
        have hatn := sps_at M n hnM
        have hzn : ((M.getD n zeroSp).cells).length = 2 := rfl
        unfold stepM at hst
        rw [show M.length - 1 = n by omega] at hst
        by_cases hc : s.a ≤ (M.getD n zeroSp).b
        · rw [if_pos ⟨by omega, hc⟩] at hst
          have hc' : decide (s.a ≤ (M.getD n zeroSp).b) = true := decide_eq_true hc
          have hmx : (if (M.getD n zeroSp).b < s.b then s.b else (M.getD n zeroSp).b) = max (M.getD n zeroSp).b s.b := by
            rw [Int.max_def]; split <;> split <;> omega
          have hfin : (sps M).set n [.v (.int .i64 (M.getD n zeroSp).a), .v (.int .i64 (max (M.getD n zeroSp).b s.b))] = sps (mergeS (m.take (i + 1))) := by
            rw [hst]; exact sps_set M n ⟨(M.getD n zeroSp).a, max (M.getD n zeroSp).b s.b⟩
          generalize M.getD n zeroSp = y at *
          clear hc hn hst hM
          unfold nmS
          repeat' (first
    | (apply Awp.sreg; (case hn => (simp only [List.length_cons, List.length_nil, Nat.reduceAdd] <;> rfl)))
    | (apply Awp.sdraw; (case hn => (simp only [List.length_cons, List.length_nil, Nat.reduceAdd] <;> rfl)))
    | (refine st_nil ?_)
    | (apply st_a; (case hc => rfl); (case he => (simp only [go_sem, *] <;> rfl)); (case hu => (simp only [updL_nil, updL_cons] <;> rfl)); (case hp => first | trivial | omega))
    | (apply Awp.reg; (case hn => (simp only [List.length_cons, List.length_nil, Nat.reduceAdd] <;> rfl)))
    | (refine Awp.skip ?_; try simp only [go_sem, *])
    | refine Awp.block ?_
    | (apply Awp.cond; (case hc => (simp only [go_sem, *] <;> rfl)); all_goals (intro hg; (try simp only [Bool.not_true, Bool.not_false, reduceCtorEq] at hg)))
    | refine Awp.seq ?_
    | (refine Awp.draw ?_)
    | (apply sl_a; (case hc => rfl); (case he => (simp only [go_sem, *] <;> rfl)); (case hu => (simp only [updL_nil, updL_cons] <;> rfl)); (case hl => (simp only [List.map_cons, List.map_nil] <;> rfl)); (case hp => first | trivial | omega | (simp; done)))
    | (apply sl_ga; (case hb => rfl); (case hv => (simp only [go_sem, *] <;> rfl)); (case he => (simp only [go_sem, *] <;> rfl)); (case hu => (simp only [updL_nil, updL_cons] <;> rfl)); (case hl => (simp only [List.map_cons, List.map_nil] <;> rfl)); (case hp => first | trivial | omega))
    | (refine sl_nil (And.intro (by first | exact drawOk_of (by decide +kernel) | (simp only [List.map_cons, List.map_nil]; exact drawOk_of (by decide +kernel)) | decide) ?_)))
          refine ⟨i + 1, by omega, by omega, ?_⟩
          (apply Ghost.mk [] []; (case hdead => rfl); (case hinj => rfl); (case hV => (simp only [go_sem, *]) <;> (repeat' (first | refine And.intro ?_ ?_ | exact View.int (by first | rfl | exact hfin | omega | (simp; done) | (rw [wrap_i64] <;> (try simp only [Int.natCast_add]) <;> omega) | (simp [*]; done)) | exact .own rfl (by decide) | exact .pre rfl (by decide)))); (case hB => (simp only [go_sem, *]) <;> (repeat' (first | refine And.intro ?_ ?_ | exact ⟨_, rfl, .rowE (by first | rfl | exact hfin | omega | (simp; done) | (rw [wrap_i64] <;> (try simp only [Int.natCast_add]) <;> omega) | (simp [*]; done))⟩))))
        · rw [if_neg (fun h => hc h.2)] at hst
          have hst' : Kept (mergeS (m.take (i + 1)) = M ++ [s]) := hst
          have hc' : decide (s.a ≤ (M.getD n zeroSp).b) = false := decide_eq_false hc
          generalize M.getD n zeroSp = y at *
          clear hc hn hM hst
          unfold nmS
          repeat' (first
    | (apply Awp.sreg; (case hn => (simp only [List.length_cons, List.length_nil, Nat.reduceAdd] <;> rfl)))
    | (apply Awp.sdraw; (case hn => (simp only [List.length_cons, List.length_nil, Nat.reduceAdd] <;> rfl)))
    | (refine st_nil ?_)
    | (apply st_a; (case hc => rfl); (case he => (simp only [go_sem, *] <;> rfl)); (case hu => (simp only [updL_nil, updL_cons] <;> rfl)); (case hp => first | trivial | omega | (simp; done) | (simp; omega)))
    | (apply Awp.reg; (case hn => (simp only [List.length_cons, List.length_nil, Nat.reduceAdd] <;> rfl)))
    | (refine Awp.skip ?_; try simp only [go_sem, *])
    | refine Awp.block ?_
    | (apply Awp.cond; (case hc => (simp only [go_sem, *] <;> rfl)); all_goals (intro hg; (try simp only [Bool.not_true, Bool.not_false, reduceCtorEq] at hg)))
    | refine Awp.seq ?_
    | (apply sl_a; (case hc => rfl); (case he => (simp only [go_sem, *] <;> rfl)); (case hu => (simp only [updL_nil, updL_cons] <;> rfl)); (case hl => (simp only [List.map_cons, List.map_nil] <;> rfl)); (case hp => first | trivial))
    | (apply sl_ga; (case hb => rfl); (case hv => (simp only [go_sem, *] <;> rfl)); (case he => (simp only [go_sem, *] <;> rfl)); (case hu => (simp only [updL_nil, updL_cons] <;> rfl)); (case hl => (simp only [List.map_cons, List.map_nil] <;> rfl)); (case hp => first | trivial | omega))
    | (refine sl_nil (And.intro (by first | exact drawOk_of (by decide +kernel) | (simp only [List.map_cons, List.map_nil]; exact drawOk_of (by decide +kernel)) | decide) ?_)))
          refine ⟨i + 1, by omega, by omega, ?_⟩
          rw [hst'.out]
          (apply Ghost.mk [(3, 224)] []; (case hdead => rfl); (case hinj => rfl); (case hV => (simp only [go_sem, *]) <;> (repeat' (first | refine And.intro ?_ ?_ | exact View.int (by first | rfl | omega | (simp; done) | (rw [wrap_i64] <;> (try simp only [Int.natCast_add]) <;> omega) | (simp [*]; done)) | exact .own rfl (by decide) | exact .pre rfl (by decide)))); (case hB => (simp only [go_sem, *]) <;> (repeat' (first | refine And.intro ?_ ?_ | exact ⟨_, rfl, .rowE (by first | rfl | omega | (simp; done) | (rw [wrap_i64] <;> (try simp only [Int.natCast_add]) <;> omega) | (simp [*]; done))⟩))))
    · have hlt' : ¬ (i : Int) < m.length := by omega
      have e1 : m.take i = m := List.take_of_length_le (by omega)
      rw [e1]
      unfold nmS
      repeat' (first
    | (apply Awp.sreg; (case hn => (simp only [List.length_cons, List.length_nil, Nat.reduceAdd] <;> rfl)))
    | (refine st_nil ?_)
    | (apply st_a; (case hc => rfl); (case he => (simp only [go_sem, *] <;> rfl)); (case hu => (simp only [updL_nil, updL_cons] <;> rfl)); (case hp => first | trivial))
    | (refine Awp.ret ?_; try simp only [go_sem, *])
    | (refine Awp.exit ?_; try simp only [go_sem, *])
    | (apply Awp.cond; (case hc => (simp only [go_sem, *] <;> rfl)); all_goals (intro hg; (try simp only [Bool.not_true, Bool.not_false, reduceCtorEq] at hg)))
    | refine Awp.seq ?_)
      exact ⟨_, rfl, rfl⟩
end Go.Proofs
end
section
set_option linter.unusedVariables false
set_option linter.unusedSimpArgs false
namespace Go.Proofs
open Go Go.Ab
set_option maxHeartbeats 4000000
set_option maxRecDepth 100000
set_option linter.unusedSimpArgs false
set_option linter.unusedVariables false
attribute [local irreducible] Awp aops aopsL Go.Ab.Pure PureOwn
def lsr (ls : List (List Sp)) : List (List AV) := ls.map fun l => [AV.sl (sps l)]
theorem lsr_len (ls : List (List Sp)) : (lsr ls).length = ls.length := by simp [lsr]
theorem lsr_at (ls : List (List Sp)) (i : Nat) (h : i < ls.length) : (lsr ls).getD i [] = [.sl (sps (ls.getD i []))] := by
  simp [lsr, List.getD_eq_getElem?_getD, h]
theorem flat_step (ls : List (List Sp)) (i : Nat) (h : i < ls.length) : (ls.take (i + 1)).flatten = (ls.take i).flatten ++ ls.getD i [] := by
  rw [List.take_add_one, List.getElem?_eq_getElem h, List.flatten_append]
  simp [List.getD_eq_getElem?_getD, h]
theorem flat_le (ls : List (List Sp)) (i : Nat) : (ls.take i).flatten.length ≤ ls.flatten.length := by
  have e : ls.flatten = (ls.take i).flatten ++ (ls.drop i).flatten := by rw [← List.flatten_append, List.take_append_drop]
  rw [e, List.length_append]; omega
def c1S (ls : List (List Sp)) (n : Nat) (i : Nat) : AState := mkS [(0, .sl (lsr ls)), (3, .v (.int .i64 n)), (9, .sl (lsr ls)), (10, .v (.int .i64 ls.length)), (11, .v (.int .i64 i))] []
def c2S (ls : List (List Sp)) (R : List Sp) (i : Nat) : AState := mkS [(6, .own 2), (25, .sl (lsr ls)), (26, .v (.int .i64 ls.length)), (27, .v (.int .i64 i))] [(2, .row (sps R) 2 30)]
theorem concat_ok (ls : List (List Sp)) (hn : ls.length < 100) (hl : ls.flatten.length < 50000) : PureOwn Tryz.prog 87 [.sl (lsr ls)] (sps ls.flatten) 2 30 := by
  have hln := lsr_len ls
  refine fn_own Tryz.F87 (Nat.le_of_ble_eq_true rfl) ?_; unfold Tryz.ac87
  repeat' (first
    | (apply Awp.sreg; (case hn => (simp only [List.length_cons, List.length_nil, Nat.reduceAdd] <;> rfl)))
    | (refine st_nil ?_)
    | (apply st_a; (case hc => rfl); (case he => (simp only [go_sem, *] <;> rfl)); (case hu => (simp only [updL_nil, updL_cons] <;> rfl)); (case hp => first | trivial))
    | refine Awp.block ?_
    | refine Awp.seq ?_)
  refine Awp.loop (fun i : Nat => i ≤ ls.length) 100 (fun i => c1S ls (ls.take i).flatten.length i) (fun i => ls.length - i) 0 (by omega) ?_ ?_
  · have e1 : (ls.take 0).flatten.length = 0 := by simp
    rw [e1]
    unfold c1S
    (apply Ghost.mk [] []; (case hdead => rfl); (case hinj => rfl); (case hV => (simp only [go_sem, *]) <;> (repeat' (first | refine And.intro ?_ ?_ | exact View.int (by first | rfl | omega | (simp; done) | (rw [wrap_i64] <;> (try simp only [Int.natCast_add]) <;> omega) | (simp [*]; done))))); (case hB => (simp only [go_sem, *]) <;> (repeat' (first | skip; done))))
  · intro i hi
    by_cases hlt : i < ls.length
    · have hlt' : (i : Int) < ls.length := by omega
      have hat := lsr_at ls i hlt
      have hst := flat_step ls i hlt
      have h1 := flat_le ls (i + 1)
      rw [hst, List.length_append] at h1
      obtain ⟨l, hle⟩ : ∃ l, ls.getD i [] = l := ⟨_, rfl⟩
      rw [hle] at hat hst h1
      have hst' : Kept ((ls.take (i + 1)).flatten.length = (ls.take i).flatten.length + l.length) := by unfold Kept; rw [hst, List.length_append]
      clear hst hle
      have hsl := sps_len l
      generalize (ls.take i).flatten.length = N at *
      have hw : IntKind.i64.wrap ((N : Int) + l.length) = ((N + l.length : Nat) : Int) := by rw [wrap_i64 (by omega) (by omega)]; simp
      have hng : decide (((N + l.length : Nat) : Int) < 0) = false := decide_eq_false (by omega)
      unfold c1S
      repeat' (first
    | (apply Awp.sreg; (case hn => (simp only [List.length_cons, List.length_nil, Nat.reduceAdd] <;> rfl)))
    | (refine st_nil ?_)
    | (apply st_a; (case hc => rfl); (case he => (simp only [go_sem, *] <;> rfl)); (case hu => (simp only [updL_nil, updL_cons] <;> rfl)); (case hp => first | trivial | omega))
    | (apply Awp.reg; (case hn => (simp only [List.length_cons, List.length_nil, Nat.reduceAdd] <;> rfl)))
    | (refine Awp.skip ?_; try simp only [go_sem, *])
    | refine Awp.block ?_
    | (apply Awp.cond; (case hc => (simp only [go_sem, *] <;> rfl)); all_goals (intro hg; (try simp only [Bool.not_true, Bool.not_false, reduceCtorEq] at hg)))
    | refine Awp.seq ?_)
      refine ⟨i + 1, by omega, by omega, ?_⟩
      rw [hst'.out]
      (apply Ghost.mk [] []; (case hdead => rfl); (case hinj => rfl); (case hV => (simp only [go_sem, *]) <;> (repeat' (first | exact View.int (by first | rfl | omega | (simp; done) | (rw [wrap_i64] <;> (try simp only [Int.natCast_add]) <;> omega) | (simp [*]; done))))); (case hB => (simp only [go_sem, *]) <;> (repeat' (first | skip; done))))
    · have hlt' : ¬ (i : Int) < ls.length := by omega
      have e1 : ls.take i = ls := List.take_of_length_le (by omega)
      rw [e1]
      have cg := fun nm => grow52 ls.flatten.length (by omega) nm
      have hge : Kept (ls.flatten.length < 50000) := hl
      obtain ⟨N, hN⟩ : ∃ N, ls.flatten.length = N := ⟨_, rfl⟩
      rw [hN] at cg ⊢
      clear hN hl e1
      unfold c1S
      repeat' (first
    | (apply Awp.sreg; (case hn => (simp only [List.length_cons, List.length_nil, Nat.reduceAdd] <;> rfl)))
    | (refine st_nil ?_)
    | (apply st_a; (case hc => rfl); (case he => (simp only [go_sem, *] <;> rfl)); (case hu => (simp only [updL_nil, updL_cons] <;> rfl)); (case hp => first | trivial))
    | (apply st_cc; (case hc => (simp only [go_sem, *] <;> rfl)); (case hcc => exact (cg _)); (case hh => (first | (simp only [List.mem_singleton, forall_eq]; first | (simp only [go_sem, *] <;> rfl) | (simp only [go_sem, *]; simp [ints])) | (intro p hp; cases hp; done) | (intro p hp; simp only [List.mem_cons, List.not_mem_nil, or_false] at hp; rcases hp with rfl | rfl | rfl | rfl | rfl | rfl | rfl <;> (simp only [go_sem, *] <;> rfl)) | (intro p hp; simp only [List.mem_cons, List.not_mem_nil, or_false] at hp; rcases hp with rfl | rfl | rfl | rfl <;> (simp only [go_sem, *] <;> rfl)))); (case hu => (first | (simp; done) | decide)); (case hm => (first | decide | (simp; done))); (case hw => (simp only [updL_nil, updL_cons] <;> rfl)))
    | (refine Awp.exit ?_; try simp only [go_sem, *])
    | refine Awp.block ?_
    | (apply Awp.cond; (case hc => (simp only [go_sem, *] <;> rfl)); all_goals (intro hg; (try simp only [Bool.not_true, Bool.not_false, reduceCtorEq] at hg)))
    | refine Awp.seq ?_)
      clear cg hlt hlt'
      refine Awp.loop (fun i : Nat => i ≤ ls.length) 200 (fun i => c2S ls (ls.take i).flatten i) (fun i => ls.length - i) 0 (by omega) ?_ ?_
      · have e1 : (ls.take 0).flatten = [] := by simp
        rw [e1]
        unfold c2S
        (apply Ghost.mk [(2, 102)] []; (case hdead => rfl); (case hinj => rfl); (case hV => (simp only [go_sem, *]) <;> (repeat' (first | refine And.intro ?_ ?_ | exact View.int (by first | rfl | omega | (simp; done) | (rw [wrap_i64] <;> (try simp only [Int.natCast_add]) <;> omega) | (simp [*]; done)) | exact .own rfl (by decide)))); (case hB => (simp only [go_sem, *]) <;> (repeat' (first | exact ⟨_, rfl, .rowE (by first | rfl | omega | (simp; done) | (rw [wrap_i64] <;> (try simp only [Int.natCast_add]) <;> omega) | (simp [*]; done))⟩))))
      · intro i hi
        by_cases hlt : i < ls.length
        · have hlt' : (i : Int) < ls.length := by omega
          have hat := lsr_at ls i hlt
          have hst := flat_step ls i hlt
          have h1 := flat_le ls (i + 1)
          have hge' := hge.out
          rw [hst, List.length_append] at h1
          obtain ⟨l, hle⟩ : ∃ l, ls.getD i [] = l := ⟨_, rfl⟩
          rw [hle] at hat hst h1
          have hst' : Kept ((ls.take (i + 1)).flatten = (ls.take i).flatten ++ l) := hst
          have hNb : (ls.take i).flatten.length + l.length < 50000 := by omega
          clear hst hle h1 hge'
          generalize (ls.take i).flatten = R at *
          have hsl := sps_len l
          have hsr := sps_len R
          have hol := sps_one l
          have hap := (sps_append R l).symm
          unfold c2S
          repeat' (first
    | (apply Awp.sreg; (case hn => (simp only [List.length_cons, List.length_nil, Nat.reduceAdd] <;> rfl)))
    | (refine st_nil ?_)
    | (apply st_a; (case hc => rfl); (case he => (simp only [go_sem, *] <;> rfl)); (case hu => (simp only [updL_nil, updL_cons] <;> rfl)); (case hp => first | trivial | omega | ((repeat' (refine And.intro ?_ ?_)) <;> first | trivial | assumption | omega | (simp; done) | (simp; omega) | (simp [*]; done))))
    | (apply Awp.reg; (case hn => (simp only [List.length_cons, List.length_nil, Nat.reduceAdd] <;> rfl)))
    | (refine Awp.skip ?_; try simp only [go_sem, *])
    | refine Awp.block ?_
    | (apply Awp.cond; (case hc => (simp only [go_sem, *] <;> rfl)); all_goals (intro hg; (try simp only [Bool.not_true, Bool.not_false, reduceCtorEq] at hg)))
    | refine Awp.seq ?_)
          refine ⟨i + 1, by omega, by omega, ?_⟩
          rw [hst'.out]
          (apply Ghost.mk [(2, 206)] []; (case hdead => rfl); (case hinj => rfl); (case hV => (simp only [go_sem, *]) <;> (repeat' (first | refine And.intro ?_ ?_ | exact View.int (by first | rfl | omega | (simp; done) | (rw [wrap_i64] <;> (try simp only [Int.natCast_add]) <;> omega) | (simp [*]; done)) | exact .own rfl (by decide)))); (case hB => (simp only [go_sem, *]) <;> (repeat' (first | exact ⟨_, rfl, .rowE (by first | rfl | omega | (simp; done) | (rw [wrap_i64] <;> (try simp only [Int.natCast_add]) <;> omega) | (simp [*]; done))⟩))))
        · have hlt' : ¬ (i : Int) < ls.length := by omega
          have e1 : ls.take i = ls := List.take_of_length_le (by omega)
          rw [e1]
          unfold c2S
          repeat' (first
    | (apply Awp.sreg; (case hn => (simp only [List.length_cons, List.length_nil, Nat.reduceAdd] <;> rfl)))
    | (refine st_nil ?_)
    | (apply st_a; (case hc => rfl); (case he => (simp only [go_sem, *] <;> rfl)); (case hu => (simp only [updL_nil, updL_cons] <;> rfl)); (case hp => first | trivial))
    | (refine Awp.ret ?_; try simp only [go_sem, *])
    | (refine Awp.exit ?_; try simp only [go_sem, *])
    | (apply Awp.cond; (case hc => (simp only [go_sem, *] <;> rfl)); all_goals (intro hg; (try simp only [Bool.not_true, Bool.not_false, reduceCtorEq] at hg)))
    | refine Awp.seq ?_)
          exact ⟨_, rfl, rfl⟩
theorem concat2 (a b : List Sp) (ha : a.length < 20000) (hb : b.length < 20000) : PureOwn Tryz.prog 87 [.sl [[.sl (sps a)], [.sl (sps b)]]] (sps (a ++ b)) 2 30 := by
  have h := concat_ok [a, b] (by simp) (by simp; omega)
  have e : [a, b].flatten = a ++ b := by simp
  rw [e] at h
  exact h
end Go.Proofs
end
section
set_option linter.unusedVariables false
set_option linter.unusedSimpArgs false
namespace Go.Proofs
open Go Go.Ab
set_option maxHeartbeats 4000000
set_option maxRecDepth 100000
set_option linter.unusedSimpArgs false
set_option linter.unusedVariables false
attribute [local irreducible] Awp aops aopsL Go.Ab.Pure PureOwn
def nx (c : List Sp) (p : Int) : Nat := c.findIdx fun s => decide (p < s.b)
theorem nx_le (c : List Sp) (p : Int) : nx c p ≤ c.length := List.findIdx_le_length
theorem nx_lt {c : List Sp} {p : Int} {j : Nat} (h : j < nx c p) : (c.getD j zeroSp).b ≤ p := by
  have hl : j < c.length := Nat.lt_of_lt_of_le h (nx_le c p)
  have h1 := List.not_of_lt_findIdx (p := fun s : Sp => decide (p < s.b)) (xs := c) (show j < c.findIdx (fun s : Sp => decide (p < s.b)) from h)
  have e : c.getD j zeroSp = c[j] := by simp [List.getD_eq_getElem?_getD, hl]
  rw [e]
  simpa using h1
theorem nx_at {c : List Sp} {p : Int} (h : nx c p < c.length) : p < (c.getD (nx c p) zeroSp).b := by
  have h1 := List.findIdx_getElem (xs := c) (p := fun s : Sp => decide (p < s.b)) (w := (show c.findIdx (fun s : Sp => decide (p < s.b)) < c.length from h))
  have e : c.getD (nx c p) zeroSp = c[nx c p] := by simp [List.getD_eq_getElem?_getD, h]
  rw [e]
  exact of_decide_eq_true h1
theorem nx_mono {c : List Sp} {p q : Int} (h : p ≤ q) : nx c p ≤ nx c q := by
  by_cases hq : nx c q < c.length
  · have h1 := nx_at hq
    by_cases hlt : nx c q < nx c p
    · have := nx_lt hlt; omega
    · omega
  · have := nx_le c p; have := nx_le c q; omega
theorem has_nx {c : List Sp} (hc : Canon c) (p : Int) : hasB c p = (decide (nx c p < c.length) && decide ((c.getD (nx c p) zeroSp).a ≤ p)) := by
  rw [Bool.eq_iff_iff, hasB_iff, Bool.and_eq_true, decide_eq_true_eq, decide_eq_true_eq]
  constructor
  · rintro ⟨s, hs, h1, h2⟩
    obtain ⟨j, hj, rfl⟩ := List.getElem_of_mem hs
    have hle : nx c p ≤ j := by
      by_cases h : j < nx c p
      · have := nx_lt h
        rw [List.getD_eq_getElem?_getD, List.getElem?_eq_getElem hj] at this
        simp only [Option.getD_some] at this
        omega
      · omega
    have hlt : nx c p < c.length := by omega
    have h3 := nx_at hlt
    have e : c.getD (nx c p) zeroSp = c[nx c p] := by simp [List.getD_eq_getElem?_getD, hlt]
    rw [e] at h3 ⊢
    refine ⟨hlt, ?_⟩
    rcases Nat.lt_or_ge (nx c p) j with h | h
    · have := List.pairwise_iff_getElem.1 hc.1 (nx c p) j hlt hj h; omega
    · have : nx c p = j := by omega
      simp only [this]; exact h1
  · rintro ⟨h1, h2⟩
    exact ⟨_, get_mem h1, h2, nx_at h1⟩
theorem andC_ok (x y : Bool) : Pure Tryz.prog 59 [.v (.bool x), .v (.bool y)] (.v (.bool (x && y))) := by
  cases x
  · refine fn_pure Tryz.F59 (Nat.le_of_ble_eq_true rfl) ?_; unfold Tryz.ac59
    repeat' (first
    | (apply Awp.sreg; (case hn => (simp only [List.length_cons, List.length_nil, Nat.reduceAdd] <;> rfl)))
    | (refine st_nil ?_)
    | (apply st_a; (case hc => rfl); (case he => (simp only [go_sem, *] <;> rfl)); (case hu => (simp only [updL_nil, updL_cons] <;> rfl)); (case hp => first | trivial))
    | (apply st_m; (case hc => rfl); (case hg => (simp only [go_sem, *] <;> rfl)); (case he => (intro hQz; (try simp only [wantB_t, wantB_f, Bool.and_eq_true, Bool.not_eq_true', Bool.not_true, Bool.not_false, and_true, true_and] at hQz); simp only [go_sem, *] <;> rfl)); (case hp => (intro hQz; (try simp only [wantB_t, wantB_f, Bool.and_eq_true, Bool.not_eq_true', Bool.or_eq_false_iff, decide_eq_true_eq, decide_eq_false_iff_not, beq_iff_eq, beq_eq_false_iff_ne, bne_iff_ne, bne_eq_false_iff_eq, Int.not_lt, Int.not_le, Int.ofNat_lt, Int.ofNat_le] at hQz); first | trivial)))
    | (refine Awp.ret ?_; try simp only [go_sem, *]))
    all_goals repeat' (first | exact Lower.bool (by first | rfl | (simp only [true_and, Bool.true_and, Bool.false_and, Bool.and_true, Bool.and_false, Bool.true_or, Bool.false_or, reduceIte, Bool.false_eq_true, *]; done) | (simp only [true_and, reduceIte, Bool.false_eq_true, *] <;> rfl) | (simp [true_and]; done) | (simp_all [true_and]; done) | omega))
  · refine fn_pure Tryz.F59 (Nat.le_of_ble_eq_true rfl) ?_; unfold Tryz.ac59
    repeat' (first
    | (apply Awp.sreg; (case hn => (simp only [List.length_cons, List.length_nil, Nat.reduceAdd] <;> rfl)))
    | (refine st_nil ?_)
    | (apply st_a; (case hc => rfl); (case he => (simp only [go_sem, *] <;> rfl)); (case hu => (simp only [updL_nil, updL_cons] <;> rfl)); (case hp => first | trivial))
    | (apply st_m; (case hc => rfl); (case hg => (simp only [go_sem, *] <;> rfl)); (case he => (intro hQz; (try simp only [wantB_t, wantB_f, Bool.and_eq_true, Bool.not_eq_true', Bool.not_true, Bool.not_false, and_true, true_and] at hQz); simp only [go_sem, *] <;> rfl)); (case hp => (intro hQz; (try simp only [wantB_t, wantB_f, Bool.and_eq_true, Bool.not_eq_true', Bool.or_eq_false_iff, decide_eq_true_eq, decide_eq_false_iff_not, beq_iff_eq, beq_eq_false_iff_ne, bne_iff_ne, bne_eq_false_iff_eq, Int.not_lt, Int.not_le, Int.ofNat_lt, Int.ofNat_le] at hQz); first | trivial)))
    | (refine Awp.ret ?_; try simp only [go_sem, *]))
    all_goals repeat' (first | exact Lower.bool (by first | rfl | (simp only [true_and, Bool.true_and, Bool.false_and, Bool.and_true, Bool.and_false, Bool.true_or, Bool.false_or, reduceIte, Bool.false_eq_true, *]; done) | (simp only [true_and, reduceIte, Bool.false_eq_true, *] <;> rfl) | (simp [true_and]; done) | (simp_all [true_and]; done) | omega))
theorem diffC_ok (x y : Bool) : Pure Tryz.prog 58 [.v (.bool x), .v (.bool y)] (.v (.bool (x && !y))) := by
  cases x
  · refine fn_pure Tryz.F58 (Nat.le_of_ble_eq_true rfl) ?_; unfold Tryz.ac58
    repeat' (first
    | (apply Awp.sreg; (case hn => (simp only [List.length_cons, List.length_nil, Nat.reduceAdd] <;> rfl)))
    | (refine st_nil ?_)
    | (apply st_a; (case hc => rfl); (case he => (simp only [go_sem, *] <;> rfl)); (case hu => (simp only [updL_nil, updL_cons] <;> rfl)); (case hp => first | trivial))
    | (apply st_m; (case hc => rfl); (case hg => (simp only [go_sem, *] <;> rfl)); (case he => (intro hQz; (try simp only [wantB_t, wantB_f, Bool.and_eq_true, Bool.not_eq_true', Bool.not_true, Bool.not_false, and_true, true_and] at hQz); simp only [go_sem, *] <;> rfl)); (case hp => (intro hQz; (try simp only [wantB_t, wantB_f, Bool.and_eq_true, Bool.not_eq_true', Bool.or_eq_false_iff, decide_eq_true_eq, decide_eq_false_iff_not, beq_iff_eq, beq_eq_false_iff_ne, bne_iff_ne, bne_eq_false_iff_eq, Int.not_lt, Int.not_le, Int.ofNat_lt, Int.ofNat_le] at hQz); first | trivial)))
    | (refine Awp.ret ?_; try simp only [go_sem, *]))
    all_goals repeat' (first | exact Lower.bool (by first | rfl | (simp only [true_and, Bool.true_and, Bool.false_and, Bool.and_true, Bool.and_false, Bool.true_or, Bool.false_or, reduceIte, Bool.false_eq_true, *]; done) | (simp only [true_and, reduceIte, Bool.false_eq_true, *] <;> rfl) | (simp [true_and]; done) | (simp_all [true_and]; done) | omega))
  · refine fn_pure Tryz.F58 (Nat.le_of_ble_eq_true rfl) ?_; unfold Tryz.ac58
    repeat' (first
    | (apply Awp.sreg; (case hn => (simp only [List.length_cons, List.length_nil, Nat.reduceAdd] <;> rfl)))
    | (refine st_nil ?_)
    | (apply st_a; (case hc => rfl); (case he => (simp only [go_sem, *] <;> rfl)); (case hu => (simp only [updL_nil, updL_cons] <;> rfl)); (case hp => first | trivial))
    | (apply st_m; (case hc => rfl); (case hg => (simp only [go_sem, *] <;> rfl)); (case he => (intro hQz; (try simp only [wantB_t, wantB_f, Bool.and_eq_true, Bool.not_eq_true', Bool.not_true, Bool.not_false, and_true, true_and] at hQz); simp only [go_sem, *] <;> rfl)); (case hp => (intro hQz; (try simp only [wantB_t, wantB_f, Bool.and_eq_true, Bool.not_eq_true', Bool.or_eq_false_iff, decide_eq_true_eq, decide_eq_false_iff_not, beq_iff_eq, beq_eq_false_iff_ne, bne_iff_ne, bne_eq_false_iff_eq, Int.not_lt, Int.not_le, Int.ofNat_lt, Int.ofNat_le] at hQz); first | trivial)))
    | (refine Awp.ret ?_; try simp only [go_sem, *]))
    all_goals repeat' (first | exact Lower.bool (by first | rfl | (simp only [true_and, Bool.true_and, Bool.false_and, Bool.and_true, Bool.and_false, Bool.true_or, Bool.false_or, reduceIte, Bool.false_eq_true, *]; done) | (simp only [true_and, reduceIte, Bool.false_eq_true, *] <;> rfl) | (simp [true_and]; done) | (simp_all [true_and]; done) | omega))
def stArgs (p q : Int) : List AV := [.v (.int .i64 p), .v (.int .i64 q), .bp 4 0, .bp 0 0, .bp 5 0, .bp 1 0, .bp 2 0, .bp 3 0]
def stHl (a b O : List Sp) (g i k : Nat) : List (Nat × Blk) := [(4, .box [.v (.int .i64 i)]), (0, .box [.sl (sps a)]), (5, .box [.v (.int .i64 k)]), (1, .box [.sl (sps b)]), (2, .box [.fn g []]), (3, .box [.own 6]), (6, .row (sps O) 2 30)]
def stSt (a b O : List Sp) (g : Nat) (p q : Int) (i k : Nat) : AState := mkS [(0, .v (.int .i64 p)), (1, .v (.int .i64 q)), (2, .bp 4 0), (3, .bp 0 0), (4, .bp 5 0), (5, .bp 1 0), (6, .bp 2 0), (7, .bp 3 0)] (stHl a b O g i k)
theorem step_no (a b O : List Sp) (g : Nat) (f : Bool → Bool → Bool) (hg : ∀ x y, Pure Tryz.prog g [.v (.bool x), .v (.bool y)] (.v (.bool (f x y)))) (ha : Canon a) (hb : Canon b) (hal : a.length < 10000) (hbl : b.length < 10000) (hO : O.length < 100000)
    (p q : Int) (i k nm : Nat) (hi : i ≤ nx a p) (hk : k ≤ nx b p) (hnm : 7 ≤ nm) (hf : f (hasB a p) (hasB b p) = false) :
    CallC Tryz.prog 88 (stArgs p q) (stHl a b O g i k) nm (.tup []) [(4, some (.box [.v (.int .i64 (nx a p))])), (0, some (.box [.sl (sps a)])), (5, some (.box [.v (.int .i64 (nx b p))])), (1, some (.box [.sl (sps b)])), (2, some (.box [.fn g []])), (3, some (.box [.own 6])), (6, some (.row (sps O) 2 30))] := by
  have hc := hg (hasB a p) (hasB b p)
  rw [hf] at hc
  have e1 := has_nx ha p
  have e2 := has_nx hb p
  have la : ∀ j, j < nx a p → j < a.length ∧ (a.getD j zeroSp).b ≤ p := fun j hj => ⟨Nat.lt_of_lt_of_le hj (nx_le a p), nx_lt hj⟩
  have lb : ∀ j, j < nx b p → j < b.length ∧ (b.getD j zeroSp).b ≤ p := fun j hj => ⟨Nat.lt_of_lt_of_le hj (nx_le b p), nx_lt hj⟩
  have hA : (∃ s : Sp, (sps a).getD (nx a p) [] = s.cells ∧ s.cells.length = 2 ∧ ((nx a p : Int) < a.length) ∧ decide (s.b ≤ p) = false ∧ decide (s.a ≤ p) = hasB a p) ∨ ((¬ (nx a p : Int) < a.length) ∧ hasB a p = false) := by
    by_cases h : nx a p < a.length
    · refine .inl ⟨a.getD (nx a p) zeroSp, sps_at a _ h, rfl, by omega, decide_eq_false (by have := nx_at h; omega), ?_⟩
      rw [e1, decide_eq_true h, Bool.true_and]
    · refine .inr ⟨by omega, ?_⟩
      rw [e1, decide_eq_false h, Bool.false_and]
  have hB : (∃ s : Sp, (sps b).getD (nx b p) [] = s.cells ∧ s.cells.length = 2 ∧ ((nx b p : Int) < b.length) ∧ decide (s.b ≤ p) = false ∧ decide (s.a ≤ p) = hasB b p) ∨ ((¬ (nx b p : Int) < b.length) ∧ hasB b p = false) := by
    by_cases h : nx b p < b.length
    · refine .inl ⟨b.getD (nx b p) zeroSp, sps_at b _ h, rfl, by omega, decide_eq_false (by have := nx_at h; omega), ?_⟩
      rw [e2, decide_eq_true h, Bool.true_and]
    · refine .inr ⟨by omega, ?_⟩
      rw [e2, decide_eq_false h, Bool.false_and]
  have ila := nx_le a p
  have ilb := nx_le b p
  have eO := sps_snoc O ⟨p, q⟩
  have eO1 := sps_one O
  have eO2 := sps_len O
  have ean := sps_len a
  have ebn := sps_len b
  dsimp only at eO
  clear e1 e2 ha hb hf hg
  generalize nx a p = I at *
  generalize nx b p = J at *
  generalize hasB a p = X at *
  generalize hasB b p = Y at *
  unfold stArgs stHl
  refine fn_cc Tryz.F88 (Nat.le_of_ble_eq_true rfl) (bs := 7) ?_ ?_ ?_ ?_ ?_ ?_ ?_
  · simp
  · simp; omega
  · simp
  · simp
  · simp only [List.map_cons, List.map_nil, List.mem_cons, List.not_mem_nil, or_false]
    rintro p (rfl | rfl | rfl | rfl | rfl | rfl | rfl)
    · exact .box rfl fun j hj => .low (by match j, hj with | 0, _ => exact .same _ rfl)
    · exact .box rfl fun j hj => .low (by match j, hj with | 0, _ => exact .same _ rfl)
    · exact .box rfl fun j hj => .low (by match j, hj with | 0, _ => exact .same _ rfl)
    · exact .box rfl fun j hj => .low (by match j, hj with | 0, _ => exact .same _ rfl)
    · exact .box rfl fun j hj => by match j, hj with | 0, _ => exact .fn rfl fun j hj => by simp at hj
    · exact .box rfl fun j hj => by match j, hj with | 0, _ => exact .own rfl (by simp)
    · exact .row rfl
  · intro j hj
    match j, hj with
    | 0, _ => exact .low (.same _ rfl)
    | 1, _ => exact .low (.same _ rfl)
    | 2, _ => exact .bp rfl (by simp)
    | 3, _ => exact .bp rfl (by simp)
    | 4, _ => exact .bp rfl (by simp)
    | 5, _ => exact .bp rfl (by simp)
    | 6, _ => exact .bp rfl (by simp)
    | 7, _ => exact .bp rfl (by simp)
  · unfold Tryz.ac88
    refine Awp.ghost (nx' := 7) (S' := stSt a b O g p q i k) (by
      unfold stSt stHl
      (apply Ghost.mkB []; (case hnb => rfl); (case hbx => omega); (case hinj => rfl); (case hV => (simp only [go_sem, *]) <;> (repeat' (first | refine And.intro ?_ ?_ | exact .bp rfl (by decide)))); (case hB => (simp only [go_sem, *]) <;> (repeat' (first | refine And.intro ?_ ?_ | exact ⟨_, rfl, BView.boxF rfl⟩ | exact ⟨_, rfl, BView.own1 rfl (by decide)⟩ | exact ⟨_, rfl, .rowE (by first | rfl | omega | (simp; done) | (rw [wrap_i64] <;> (try simp only [Int.natCast_add]) <;> omega) | (simp [*]; done))⟩ | exact ⟨_, rfl, BView.fn0⟩))))) ?_
    unfold stSt stHl
    repeat' (first
    | refine Awp.block ?_
    | refine Awp.seq ?_)
    refine Awp.loop (fun j : Nat => j ≤ I) 100 (fun j => stSt a b O g p q j k) (fun j => I - j) i hi ?_ ?_
    · unfold stSt stHl
      (apply Ghost.mkB []; (case hnb => rfl); (case hbx => omega); (case hinj => rfl); (case hV => (simp only [go_sem, *]) <;> (repeat' (first | refine And.intro ?_ ?_ | exact .bp rfl (by decide)))); (case hB => (simp only [go_sem, *]) <;> (repeat' (first | refine And.intro ?_ ?_ | exact ⟨_, rfl, BView.boxF rfl⟩ | exact ⟨_, rfl, BView.own1 rfl (by decide)⟩ | exact ⟨_, rfl, .rowE (by first | rfl | omega | (simp; done) | (rw [wrap_i64] <;> (try simp only [Int.natCast_add]) <;> omega) | (simp [*]; done))⟩ | exact ⟨_, rfl, BView.fn0⟩))))
    · intro j hj
      by_cases hjI : j < I
      · obtain ⟨h1, h2⟩ := la j hjI
        have h1' : (j : Int) < a.length := by omega
        have hw : IntKind.i64.wrap ((j : Int) + 1) = ((j + 1 : Nat) : Int) := by rw [wrap_i64 (by omega) (by omega)]; simp
        have h2' : decide ((a.getD j zeroSp).b ≤ p) = true := decide_eq_true h2
        have hat := sps_at a j h1
        have hz : ((a.getD j zeroSp).cells).length = 2 := rfl
        generalize a.getD j zeroSp = s at *
        clear h2 la lb hA hB hc
        unfold stSt stHl
        repeat' (first
    | (apply Awp.sreg; (case hn => (simp only [List.length_cons, List.length_nil, Nat.reduceAdd] <;> rfl)))
    | (refine st_nil ?_)
    | (apply st_a; (case hc => rfl); (case he => (simp only [go_sem, *] <;> rfl)); (case hu => (simp only [updL_nil, updL_cons] <;> rfl)); (case hp => first | trivial))
    | (apply st_m; (case hc => rfl); (case hg => (simp only [go_sem, *] <;> rfl)); (case he => (intro hQz; (try simp only [wantB_t, wantB_f, Bool.and_eq_true, Bool.not_eq_true', Bool.not_true, Bool.not_false, and_true, true_and] at hQz); simp only [go_sem, *] <;> rfl)); (case hp => (intro hQz; (try simp only [wantB_t, wantB_f, Bool.and_eq_true, Bool.not_eq_true', Bool.or_eq_false_iff, decide_eq_true_eq, decide_eq_false_iff_not, beq_iff_eq, beq_eq_false_iff_ne, bne_iff_ne, bne_eq_false_iff_eq, Int.not_lt, Int.not_le, Int.ofNat_lt, Int.ofNat_le] at hQz); first | trivial | omega)))
    | (apply Awp.reg; (case hn => (simp only [List.length_cons, List.length_nil, Nat.reduceAdd] <;> rfl)))
    | (refine Awp.skip ?_; try simp only [go_sem, *])
    | refine Awp.block ?_
    | (apply Awp.cond; (case hc => (simp only [go_sem, *] <;> rfl)); all_goals (intro hg; (try simp only [Bool.not_true, Bool.not_false, reduceCtorEq] at hg)))
    | refine Awp.seq ?_)
        refine ⟨j + 1, by omega, by omega, ?_⟩
        (apply Ghost.mkB []; (case hnb => rfl); (case hbx => omega); (case hinj => rfl); (case hV => (simp only [go_sem, *]) <;> (repeat' (first | refine And.intro ?_ ?_ | exact .bp rfl (by decide)))); (case hB => (simp only [go_sem, *]) <;> (repeat' (first | refine And.intro ?_ ?_ | exact ⟨_, rfl, BView.boxF rfl⟩ | exact ⟨_, rfl, BView.own1 rfl (by decide)⟩ | exact ⟨_, rfl, .rowE (by first | rfl | omega | (simp; done) | (rw [wrap_i64] <;> (try simp only [Int.natCast_add]) <;> omega) | (simp [*]; done))⟩ | exact ⟨_, rfl, BView.fn0⟩))))
      · have hjI' : j = I := by omega
        subst hjI'
        clear hjI la hj hi
        rcases hA with ⟨s, a1, a2, a3, a4, a5⟩ | ⟨a1, rfl⟩ <;> rcases hB with ⟨t, b1, b2, b3, b4, b5⟩ | ⟨b1, rfl⟩
        all_goals
          unfold stSt stHl
          repeat' (first
    | (apply Awp.sreg; (case hn => (simp only [List.length_cons, List.length_nil, Nat.reduceAdd] <;> rfl)))
    | (refine st_nil ?_)
    | (apply st_a; (case hc => rfl); (case he => (simp only [go_sem, *] <;> rfl)); (case hu => (simp only [updL_nil, updL_cons] <;> rfl)); (case hp => first | trivial))
    | (apply st_m; (case hc => rfl); (case hg => (simp only [go_sem, *] <;> rfl)); (case he => (intro hQz; (try simp only [wantB_t, wantB_f, Bool.and_eq_true, Bool.not_eq_true', Bool.not_true, Bool.not_false, and_true, true_and] at hQz); simp only [go_sem, *] <;> rfl)); (case hp => (intro hQz; (try simp only [wantB_t, wantB_f, Bool.and_eq_true, Bool.not_eq_true', Bool.or_eq_false_iff, decide_eq_true_eq, decide_eq_false_iff_not, beq_iff_eq, beq_eq_false_iff_ne, bne_iff_ne, bne_eq_false_iff_eq, Int.not_lt, Int.not_le, Int.ofNat_lt, Int.ofNat_le] at hQz); first | trivial | omega)))
    | (refine Awp.exit ?_; try simp only [go_sem, *])
    | refine Awp.block ?_
    | (apply Awp.cond; (case hc => (simp only [go_sem, *] <;> rfl)); all_goals (intro hg; (try simp only [Bool.not_true, Bool.not_false, reduceCtorEq] at hg)))
    | refine Awp.seq ?_)
          refine Awp.loop (fun l : Nat => l ≤ J) 200 (fun l => stSt a b O g p q j l) (fun l => J - l) k hk ?_ ?_
          · unfold stSt stHl
            (apply Ghost.mkB []; (case hnb => rfl); (case hbx => omega); (case hinj => rfl); (case hV => (simp only [go_sem, *]) <;> (repeat' (first | refine And.intro ?_ ?_ | exact .bp rfl (by decide)))); (case hB => (simp only [go_sem, *]) <;> (repeat' (first | refine And.intro ?_ ?_ | exact ⟨_, rfl, BView.boxF rfl⟩ | exact ⟨_, rfl, BView.own1 rfl (by decide)⟩ | exact ⟨_, rfl, .rowE (by first | rfl | omega | (simp; done) | (rw [wrap_i64] <;> (try simp only [Int.natCast_add]) <;> omega) | (simp [*]; done))⟩ | exact ⟨_, rfl, BView.fn0⟩))))
          · intro l hl
            by_cases hlJ : l < J
            · obtain ⟨h1, h2⟩ := lb l hlJ
              have h1' : (l : Int) < b.length := by omega
              have hw : IntKind.i64.wrap ((l : Int) + 1) = ((l + 1 : Nat) : Int) := by rw [wrap_i64 (by omega) (by omega)]; simp
              have h2' : decide ((b.getD l zeroSp).b ≤ p) = true := decide_eq_true h2
              have hat := sps_at b l h1
              have hz : ((b.getD l zeroSp).cells).length = 2 := rfl
              generalize b.getD l zeroSp = u at *
              clear h2 lb hc
              unfold stSt stHl
              repeat' (first
    | (apply Awp.sreg; (case hn => (simp only [List.length_cons, List.length_nil, Nat.reduceAdd] <;> rfl)))
    | (refine st_nil ?_)
    | (apply st_a; (case hc => rfl); (case he => (simp only [go_sem, *] <;> rfl)); (case hu => (simp only [updL_nil, updL_cons] <;> rfl)); (case hp => first | trivial))
    | (apply st_m; (case hc => rfl); (case hg => (simp only [go_sem, *] <;> rfl)); (case he => (intro hQz; (try simp only [wantB_t, wantB_f, Bool.and_eq_true, Bool.not_eq_true', Bool.not_true, Bool.not_false, and_true, true_and] at hQz); simp only [go_sem, *] <;> rfl)); (case hp => (intro hQz; (try simp only [wantB_t, wantB_f, Bool.and_eq_true, Bool.not_eq_true', Bool.or_eq_false_iff, decide_eq_true_eq, decide_eq_false_iff_not, beq_iff_eq, beq_eq_false_iff_ne, bne_iff_ne, bne_eq_false_iff_eq, Int.not_lt, Int.not_le, Int.ofNat_lt, Int.ofNat_le] at hQz); first | trivial | omega)))
    | (apply Awp.reg; (case hn => (simp only [List.length_cons, List.length_nil, Nat.reduceAdd] <;> rfl)))
    | (refine Awp.skip ?_; try simp only [go_sem, *])
    | refine Awp.block ?_
    | (apply Awp.cond; (case hc => (simp only [go_sem, *] <;> rfl)); all_goals (intro hg; (try simp only [Bool.not_true, Bool.not_false, reduceCtorEq] at hg)))
    | refine Awp.seq ?_)
              refine ⟨l + 1, by omega, by omega, ?_⟩
              (apply Ghost.mkB []; (case hnb => rfl); (case hbx => omega); (case hinj => rfl); (case hV => (simp only [go_sem, *]) <;> (repeat' (first | refine And.intro ?_ ?_ | exact .bp rfl (by decide)))); (case hB => (simp only [go_sem, *]) <;> (repeat' (first | refine And.intro ?_ ?_ | exact ⟨_, rfl, BView.boxF rfl⟩ | exact ⟨_, rfl, BView.own1 rfl (by decide)⟩ | exact ⟨_, rfl, .rowE (by first | rfl | omega | (simp; done) | (rw [wrap_i64] <;> (try simp only [Int.natCast_add]) <;> omega) | (simp [*]; done))⟩ | exact ⟨_, rfl, BView.fn0⟩))))
            · have hlJ' : l = J := by omega
              subst hlJ'
              clear hlJ lb hl hk
              unfold stSt stHl
              repeat' (first
    | (apply Awp.sreg; (case hn => (simp only [List.length_cons, List.length_nil, Nat.reduceAdd] <;> rfl)))
    | (apply Awp.sdraw; (case hn => (simp only [List.length_cons, List.length_nil, Nat.reduceAdd] <;> rfl)))
    | (refine st_nil ?_)
    | (apply st_a; (case hc => rfl); (case he => (simp only [go_sem, *] <;> rfl)); (case hu => (simp only [updL_nil, updL_cons] <;> rfl)); (case hp => first | trivial))
    | (apply st_m; (case hc => rfl); (case hg => (simp only [go_sem, *] <;> rfl)); (case he => (intro hQz; (try simp only [wantB_t, wantB_f, Bool.and_eq_true, Bool.not_eq_true', Bool.not_true, Bool.not_false, and_true, true_and] at hQz); simp only [go_sem, *] <;> rfl)); (case hp => (intro hQz; (try simp only [wantB_t, wantB_f, Bool.and_eq_true, Bool.not_eq_true', Bool.or_eq_false_iff, decide_eq_true_eq, decide_eq_false_iff_not, beq_iff_eq, beq_eq_false_iff_ne, bne_iff_ne, bne_eq_false_iff_eq, Int.not_lt, Int.not_le, Int.ofNat_lt, Int.ofNat_le] at hQz); first | trivial | omega)))
    | (refine Awp.skip ?_; try simp only [go_sem, *])
    | (refine Awp.exit ?_; try simp only [go_sem, *])
    | (apply Awp.cond; (case hc => (simp only [go_sem, *] <;> rfl)); all_goals (intro hg; (try simp only [Bool.not_true, Bool.not_false, reduceCtorEq] at hg)))
    | refine Awp.seq ?_
    | (apply sl_a; (case hc => rfl); (case he => (simp only [go_sem, *] <;> rfl)); (case hu => (simp only [updL_nil, updL_cons] <;> rfl)); (case hl => (simp only [List.map_cons, List.map_nil] <;> rfl)); (case hp => first | trivial))
    | (apply sl_gn; (case hv => (simp only [go_sem, *] <;> rfl)); (case hbw => rfl))
    | (apply sl_ga; (case hb => rfl); (case hv => (simp only [go_sem, *] <;> rfl)); (case he => (simp only [go_sem, *] <;> rfl)); (case hu => (simp only [updL_nil, updL_cons] <;> rfl)); (case hl => (simp only [List.map_cons, List.map_nil] <;> rfl)); (case hp => first | trivial | omega))
    | (apply sl_c; (case hc => (simp only [go_sem, *] <;> rfl)); (case hl => (simp only [go_sem, *] <;> rfl)); (case hn => (simp only [go_sem, *] <;> rfl)); (case hp => first | exact hc | (have hXz := hc; simp only [go_sem, *] at hXz; exact hXz)); (case hd => first | exact .inl rfl | exact .inr (.v _) | exact .inr .any | exact .inr .nils); (case hm => first | decide | (simp; done)))
    | (refine sl_nil (And.intro (by first | exact drawOk_of (by decide +kernel) | (simp only [List.map_cons, List.map_nil]; exact drawOk_of (by decide +kernel)) | decide) ?_)))
              have hr : ∀ k, k < 7 → rn nm 7 k = k := fun k hk => by unfold rn; rw [if_neg (by omega)]
              have hrn : rn nm 7 nm = 7 := by unfold rn; rw [if_pos rfl]
              refine ⟨7, by omega, .tup rfl fun j hj => by simp at hj, fun k b' hk => ?_⟩
              have hnm0 : (0 : Nat) ≠ nm := by omega
              have hnm1 : (1 : Nat) ≠ nm := by omega
              have hnm2 : (2 : Nat) ≠ nm := by omega
              have hnm3 : (3 : Nat) ≠ nm := by omega
              have hnm4 : (4 : Nat) ≠ nm := by omega
              have hnm5 : (5 : Nat) ≠ nm := by omega
              have hnm6 : (6 : Nat) ≠ nm := by omega
              by_cases h4 : k = 4
              · subst h4
                have e1 : b' = .box [.v (.int .i64 j)] := by simpa [updL, upd, hnm4] using hk.symm
                subst e1
                rw [hr 4 (by omega)]
                exact ⟨_, rfl, .box rfl fun j hj => .low (by match j, hj with | 0, _ => exact .same _ rfl)⟩
              by_cases h0 : k = 0
              · subst h0
                have e1 : b' = .box [.sl (sps a)] := by simpa [updL, upd, hnm0] using hk.symm
                subst e1
                rw [hr 0 (by omega)]
                exact ⟨_, rfl, .box rfl fun j hj => .low (by match j, hj with | 0, _ => exact .same _ rfl)⟩
              by_cases h5 : k = 5
              · subst h5
                have e1 : b' = .box [.v (.int .i64 l)] := by simpa [updL, upd, hnm5] using hk.symm
                subst e1
                rw [hr 5 (by omega)]
                exact ⟨_, rfl, .box rfl fun j hj => .low (by match j, hj with | 0, _ => exact .same _ rfl)⟩
              by_cases h1 : k = 1
              · subst h1
                have e1 : b' = .box [.sl (sps b)] := by simpa [updL, upd, hnm1] using hk.symm
                subst e1
                rw [hr 1 (by omega)]
                exact ⟨_, rfl, .box rfl fun j hj => .low (by match j, hj with | 0, _ => exact .same _ rfl)⟩
              by_cases h2 : k = 2
              · subst h2
                have e1 : b' = .box [.fn g []] := by simpa [updL, upd, hnm2] using hk.symm
                subst e1
                rw [hr 2 (by omega)]
                exact ⟨_, rfl, .box rfl fun j hj => by match j, hj with | 0, _ => exact .fn rfl fun j hj => by simp at hj⟩
              by_cases h3 : k = 3
              · subst h3
                have e1 : b' = .box [.own 6] := by simpa [updL, upd, hnm3] using hk.symm
                subst e1
                rw [hr 3 (by omega)]
                exact ⟨_, rfl, .box rfl fun j hj => by match j, hj with | 0, _ => exact .own (hr 6 (by omega)) (by simp)⟩
              by_cases h6 : k = 6
              · subst h6
                have e1 : b' = .row (sps O) 2 30 := by simpa [updL, upd, hnm6] using hk.symm
                subst e1
                rw [hr 6 (by omega)]
                exact ⟨_, rfl, .row rfl⟩
              simp [updL, upd, listH, h0, h1, h2, h3, h4, h5, h6] at hk
end Go.Proofs
end
section
set_option linter.unusedVariables false
set_option linter.unusedSimpArgs false
namespace Go.Proofs
open Go Go.Ab
set_option maxHeartbeats 4000000
set_option maxRecDepth 100000
set_option linter.unusedSimpArgs false
set_option linter.unusedVariables false
attribute [local irreducible] Awp aops aopsL Go.Ab.Pure PureOwn
theorem step_yes (a b O : List Sp) (g : Nat) (f : Bool → Bool → Bool) (hg : ∀ x y, Pure Tryz.prog g [.v (.bool x), .v (.bool y)] (.v (.bool (f x y)))) (ha : Canon a) (hb : Canon b) (hal : a.length < 10000) (hbl : b.length < 10000) (hO : O.length < 100000)
    (p q : Int) (i k nm : Nat) (hi : i ≤ nx a p) (hk : k ≤ nx b p) (hnm : 7 ≤ nm) (hf : f (hasB a p) (hasB b p) = true) :
    CallC Tryz.prog 88 (stArgs p q) (stHl a b O g i k) nm (.tup []) [(4, some (.box [.v (.int .i64 (nx a p))])), (0, some (.box [.sl (sps a)])), (5, some (.box [.v (.int .i64 (nx b p))])), (1, some (.box [.sl (sps b)])), (2, some (.box [.fn g []])), (6, none), (nm, some (.row (sps (O ++ [⟨p, q⟩])) 2 30)), (3, some (.box [.own nm]))] := by
  have hc := hg (hasB a p) (hasB b p)
  rw [hf] at hc
  have e1 := has_nx ha p
  have e2 := has_nx hb p
  have la : ∀ j, j < nx a p → j < a.length ∧ (a.getD j zeroSp).b ≤ p := fun j hj => ⟨Nat.lt_of_lt_of_le hj (nx_le a p), nx_lt hj⟩
  have lb : ∀ j, j < nx b p → j < b.length ∧ (b.getD j zeroSp).b ≤ p := fun j hj => ⟨Nat.lt_of_lt_of_le hj (nx_le b p), nx_lt hj⟩
  have hA : (∃ s : Sp, (sps a).getD (nx a p) [] = s.cells ∧ s.cells.length = 2 ∧ ((nx a p : Int) < a.length) ∧ decide (s.b ≤ p) = false ∧ decide (s.a ≤ p) = hasB a p) ∨ ((¬ (nx a p : Int) < a.length) ∧ hasB a p = false) := by
    by_cases h : nx a p < a.length
    · refine .inl ⟨a.getD (nx a p) zeroSp, sps_at a _ h, rfl, by omega, decide_eq_false (by have := nx_at h; omega), ?_⟩
      rw [e1, decide_eq_true h, Bool.true_and]
    · refine .inr ⟨by omega, ?_⟩
      rw [e1, decide_eq_false h, Bool.false_and]
  have hB : (∃ s : Sp, (sps b).getD (nx b p) [] = s.cells ∧ s.cells.length = 2 ∧ ((nx b p : Int) < b.length) ∧ decide (s.b ≤ p) = false ∧ decide (s.a ≤ p) = hasB b p) ∨ ((¬ (nx b p : Int) < b.length) ∧ hasB b p = false) := by
    by_cases h : nx b p < b.length
    · refine .inl ⟨b.getD (nx b p) zeroSp, sps_at b _ h, rfl, by omega, decide_eq_false (by have := nx_at h; omega), ?_⟩
      rw [e2, decide_eq_true h, Bool.true_and]
    · refine .inr ⟨by omega, ?_⟩
      rw [e2, decide_eq_false h, Bool.false_and]
  have ila := nx_le a p
  have ilb := nx_le b p
  have eO := sps_snoc O ⟨p, q⟩
  have eO1 := sps_one O
  have eO2 := sps_len O
  have ean := sps_len a
  have ebn := sps_len b
  dsimp only at eO
  clear e1 e2 ha hb hf hg
  generalize nx a p = I at *
  generalize nx b p = J at *
  generalize hasB a p = X at *
  generalize hasB b p = Y at *
  unfold stArgs stHl
  refine fn_cc Tryz.F88 (Nat.le_of_ble_eq_true rfl) (bs := 7) ?_ ?_ ?_ ?_ ?_ ?_ ?_
  · simp
  · simp; omega
  · simp
  · simp
  · simp only [List.map_cons, List.map_nil, List.mem_cons, List.not_mem_nil, or_false]
    rintro p (rfl | rfl | rfl | rfl | rfl | rfl | rfl)
    · exact .box rfl fun j hj => .low (by match j, hj with | 0, _ => exact .same _ rfl)
    · exact .box rfl fun j hj => .low (by match j, hj with | 0, _ => exact .same _ rfl)
    · exact .box rfl fun j hj => .low (by match j, hj with | 0, _ => exact .same _ rfl)
    · exact .box rfl fun j hj => .low (by match j, hj with | 0, _ => exact .same _ rfl)
    · exact .box rfl fun j hj => by match j, hj with | 0, _ => exact .fn rfl fun j hj => by simp at hj
    · exact .box rfl fun j hj => by match j, hj with | 0, _ => exact .own rfl (by simp)
    · exact .row rfl
  · intro j hj
    match j, hj with
    | 0, _ => exact .low (.same _ rfl)
    | 1, _ => exact .low (.same _ rfl)
    | 2, _ => exact .bp rfl (by simp)
    | 3, _ => exact .bp rfl (by simp)
    | 4, _ => exact .bp rfl (by simp)
    | 5, _ => exact .bp rfl (by simp)
    | 6, _ => exact .bp rfl (by simp)
    | 7, _ => exact .bp rfl (by simp)
  · unfold Tryz.ac88
    refine Awp.ghost (nx' := 7) (S' := stSt a b O g p q i k) (by
      unfold stSt stHl
      (apply Ghost.mkB []; (case hnb => rfl); (case hbx => omega); (case hinj => rfl); (case hV => (simp only [go_sem, *]) <;> (repeat' (first | refine And.intro ?_ ?_ | exact .bp rfl (by decide)))); (case hB => (simp only [go_sem, *]) <;> (repeat' (first | refine And.intro ?_ ?_ | exact ⟨_, rfl, BView.boxF rfl⟩ | exact ⟨_, rfl, BView.own1 rfl (by decide)⟩ | exact ⟨_, rfl, .rowE (by first | rfl | omega | (simp; done) | (rw [wrap_i64] <;> (try simp only [Int.natCast_add]) <;> omega) | (simp [*]; done))⟩ | exact ⟨_, rfl, BView.fn0⟩))))) ?_
    unfold stSt stHl
    repeat' (first
    | refine Awp.block ?_
    | refine Awp.seq ?_)
    refine Awp.loop (fun j : Nat => j ≤ I) 100 (fun j => stSt a b O g p q j k) (fun j => I - j) i hi ?_ ?_
    · unfold stSt stHl
      (apply Ghost.mkB []; (case hnb => rfl); (case hbx => omega); (case hinj => rfl); (case hV => (simp only [go_sem, *]) <;> (repeat' (first | refine And.intro ?_ ?_ | exact .bp rfl (by decide)))); (case hB => (simp only [go_sem, *]) <;> (repeat' (first | refine And.intro ?_ ?_ | exact ⟨_, rfl, BView.boxF rfl⟩ | exact ⟨_, rfl, BView.own1 rfl (by decide)⟩ | exact ⟨_, rfl, .rowE (by first | rfl | omega | (simp; done) | (rw [wrap_i64] <;> (try simp only [Int.natCast_add]) <;> omega) | (simp [*]; done))⟩ | exact ⟨_, rfl, BView.fn0⟩))))
    · intro j hj
      by_cases hjI : j < I
      · obtain ⟨h1, h2⟩ := la j hjI
        have h1' : (j : Int) < a.length := by omega
        have hw : IntKind.i64.wrap ((j : Int) + 1) = ((j + 1 : Nat) : Int) := by rw [wrap_i64 (by omega) (by omega)]; simp
        have h2' : decide ((a.getD j zeroSp).b ≤ p) = true := decide_eq_true h2
        have hat := sps_at a j h1
        have hz : ((a.getD j zeroSp).cells).length = 2 := rfl
        generalize a.getD j zeroSp = s at *
        clear h2 la lb hA hB hc
        unfold stSt stHl
        repeat' (first
    | (apply Awp.sreg; (case hn => (simp only [List.length_cons, List.length_nil, Nat.reduceAdd] <;> rfl)))
    | (refine st_nil ?_)
    | (apply st_a; (case hc => rfl); (case he => (simp only [go_sem, *] <;> rfl)); (case hu => (simp only [updL_nil, updL_cons] <;> rfl)); (case hp => first | trivial))
    | (apply st_m; (case hc => rfl); (case hg => (simp only [go_sem, *] <;> rfl)); (case he => (intro hQz; (try simp only [wantB_t, wantB_f, Bool.and_eq_true, Bool.not_eq_true', Bool.not_true, Bool.not_false, and_true, true_and] at hQz); simp only [go_sem, *] <;> rfl)); (case hp => (intro hQz; (try simp only [wantB_t, wantB_f, Bool.and_eq_true, Bool.not_eq_true', Bool.or_eq_false_iff, decide_eq_true_eq, decide_eq_false_iff_not, beq_iff_eq, beq_eq_false_iff_ne, bne_iff_ne, bne_eq_false_iff_eq, Int.not_lt, Int.not_le, Int.ofNat_lt, Int.ofNat_le] at hQz); first | trivial | omega)))
    | (apply Awp.reg; (case hn => (simp only [List.length_cons, List.length_nil, Nat.reduceAdd] <;> rfl)))
    | (refine Awp.skip ?_; try simp only [go_sem, *])
    | refine Awp.block ?_
    | (apply Awp.cond; (case hc => (simp only [go_sem, *] <;> rfl)); all_goals (intro hg; (try simp only [Bool.not_true, Bool.not_false, reduceCtorEq] at hg)))
    | refine Awp.seq ?_)
        refine ⟨j + 1, by omega, by omega, ?_⟩
        (apply Ghost.mkB []; (case hnb => rfl); (case hbx => omega); (case hinj => rfl); (case hV => (simp only [go_sem, *]) <;> (repeat' (first | refine And.intro ?_ ?_ | exact .bp rfl (by decide)))); (case hB => (simp only [go_sem, *]) <;> (repeat' (first | refine And.intro ?_ ?_ | exact ⟨_, rfl, BView.boxF rfl⟩ | exact ⟨_, rfl, BView.own1 rfl (by decide)⟩ | exact ⟨_, rfl, .rowE (by first | rfl | omega | (simp; done) | (rw [wrap_i64] <;> (try simp only [Int.natCast_add]) <;> omega) | (simp [*]; done))⟩ | exact ⟨_, rfl, BView.fn0⟩))))
      · have hjI' : j = I := by omega
        subst hjI'
        clear hjI la hj hi
        rcases hA with ⟨s, a1, a2, a3, a4, a5⟩ | ⟨a1, rfl⟩ <;> rcases hB with ⟨t, b1, b2, b3, b4, b5⟩ | ⟨b1, rfl⟩
        all_goals
          unfold stSt stHl
          repeat' (first
    | (apply Awp.sreg; (case hn => (simp only [List.length_cons, List.length_nil, Nat.reduceAdd] <;> rfl)))
    | (refine st_nil ?_)
    | (apply st_a; (case hc => rfl); (case he => (simp only [go_sem, *] <;> rfl)); (case hu => (simp only [updL_nil, updL_cons] <;> rfl)); (case hp => first | trivial))
    | (apply st_m; (case hc => rfl); (case hg => (simp only [go_sem, *] <;> rfl)); (case he => (intro hQz; (try simp only [wantB_t, wantB_f, Bool.and_eq_true, Bool.not_eq_true', Bool.not_true, Bool.not_false, and_true, true_and] at hQz); simp only [go_sem, *] <;> rfl)); (case hp => (intro hQz; (try simp only [wantB_t, wantB_f, Bool.and_eq_true, Bool.not_eq_true', Bool.or_eq_false_iff, decide_eq_true_eq, decide_eq_false_iff_not, beq_iff_eq, beq_eq_false_iff_ne, bne_iff_ne, bne_eq_false_iff_eq, Int.not_lt, Int.not_le, Int.ofNat_lt, Int.ofNat_le] at hQz); first | trivial | omega)))
    | (refine Awp.exit ?_; try simp only [go_sem, *])
    | refine Awp.block ?_
    | (apply Awp.cond; (case hc => (simp only [go_sem, *] <;> rfl)); all_goals (intro hg; (try simp only [Bool.not_true, Bool.not_false, reduceCtorEq] at hg)))
    | refine Awp.seq ?_)
          refine Awp.loop (fun l : Nat => l ≤ J) 200 (fun l => stSt a b O g p q j l) (fun l => J - l) k hk ?_ ?_
          · unfold stSt stHl
            (apply Ghost.mkB []; (case hnb => rfl); (case hbx => omega); (case hinj => rfl); (case hV => (simp only [go_sem, *]) <;> (repeat' (first | refine And.intro ?_ ?_ | exact .bp rfl (by decide)))); (case hB => (simp only [go_sem, *]) <;> (repeat' (first | refine And.intro ?_ ?_ | exact ⟨_, rfl, BView.boxF rfl⟩ | exact ⟨_, rfl, BView.own1 rfl (by decide)⟩ | exact ⟨_, rfl, .rowE (by first | rfl | omega | (simp; done) | (rw [wrap_i64] <;> (try simp only [Int.natCast_add]) <;> omega) | (simp [*]; done))⟩ | exact ⟨_, rfl, BView.fn0⟩))))
          · intro l hl
            by_cases hlJ : l < J
            · obtain ⟨h1, h2⟩ := lb l hlJ
              have h1' : (l : Int) < b.length := by omega
              have hw : IntKind.i64.wrap ((l : Int) + 1) = ((l + 1 : Nat) : Int) := by rw [wrap_i64 (by omega) (by omega)]; simp
              have h2' : decide ((b.getD l zeroSp).b ≤ p) = true := decide_eq_true h2
              have hat := sps_at b l h1
              have hz : ((b.getD l zeroSp).cells).length = 2 := rfl
              generalize b.getD l zeroSp = u at *
              clear h2 lb hc
              unfold stSt stHl
              repeat' (first
    | (apply Awp.sreg; (case hn => (simp only [List.length_cons, List.length_nil, Nat.reduceAdd] <;> rfl)))
    | (refine st_nil ?_)
    | (apply st_a; (case hc => rfl); (case he => (simp only [go_sem, *] <;> rfl)); (case hu => (simp only [updL_nil, updL_cons] <;> rfl)); (case hp => first | trivial))
    | (apply st_m; (case hc => rfl); (case hg => (simp only [go_sem, *] <;> rfl)); (case he => (intro hQz; (try simp only [wantB_t, wantB_f, Bool.and_eq_true, Bool.not_eq_true', Bool.not_true, Bool.not_false, and_true, true_and] at hQz); simp only [go_sem, *] <;> rfl)); (case hp => (intro hQz; (try simp only [wantB_t, wantB_f, Bool.and_eq_true, Bool.not_eq_true', Bool.or_eq_false_iff, decide_eq_true_eq, decide_eq_false_iff_not, beq_iff_eq, beq_eq_false_iff_ne, bne_iff_ne, bne_eq_false_iff_eq, Int.not_lt, Int.not_le, Int.ofNat_lt, Int.ofNat_le] at hQz); first | trivial | omega)))
    | (apply Awp.reg; (case hn => (simp only [List.length_cons, List.length_nil, Nat.reduceAdd] <;> rfl)))
    | (refine Awp.skip ?_; try simp only [go_sem, *])
    | refine Awp.block ?_
    | (apply Awp.cond; (case hc => (simp only [go_sem, *] <;> rfl)); all_goals (intro hg; (try simp only [Bool.not_true, Bool.not_false, reduceCtorEq] at hg)))
    | refine Awp.seq ?_)
              refine ⟨l + 1, by omega, by omega, ?_⟩
              (apply Ghost.mkB []; (case hnb => rfl); (case hbx => omega); (case hinj => rfl); (case hV => (simp only [go_sem, *]) <;> (repeat' (first | refine And.intro ?_ ?_ | exact .bp rfl (by decide)))); (case hB => (simp only [go_sem, *]) <;> (repeat' (first | refine And.intro ?_ ?_ | exact ⟨_, rfl, BView.boxF rfl⟩ | exact ⟨_, rfl, BView.own1 rfl (by decide)⟩ | exact ⟨_, rfl, .rowE (by first | rfl | omega | (simp; done) | (rw [wrap_i64] <;> (try simp only [Int.natCast_add]) <;> omega) | (simp [*]; done))⟩ | exact ⟨_, rfl, BView.fn0⟩))))
            · have hlJ' : l = J := by omega
              subst hlJ'
              clear hlJ lb hl hk
              unfold stSt stHl
              repeat' (first
    | (apply Awp.sreg; (case hn => (simp only [List.length_cons, List.length_nil, Nat.reduceAdd] <;> rfl)))
    | (apply Awp.sdraw; (case hn => (simp only [List.length_cons, List.length_nil, Nat.reduceAdd] <;> rfl)))
    | (refine st_nil ?_)
    | (apply st_a; (case hc => rfl); (case he => (simp only [go_sem, *] <;> rfl)); (case hu => (simp only [updL_nil, updL_cons] <;> rfl)); (case hp => first | trivial | (simp; done) | (simp; omega)))
    | (apply st_m; (case hc => rfl); (case hg => (simp only [go_sem, *] <;> rfl)); (case he => (intro hQz; (try simp only [wantB_t, wantB_f, Bool.and_eq_true, Bool.not_eq_true', Bool.not_true, Bool.not_false, and_true, true_and] at hQz); simp only [go_sem, *] <;> rfl)); (case hp => (intro hQz; (try simp only [wantB_t, wantB_f, Bool.and_eq_true, Bool.not_eq_true', Bool.or_eq_false_iff, decide_eq_true_eq, decide_eq_false_iff_not, beq_iff_eq, beq_eq_false_iff_ne, bne_iff_ne, bne_eq_false_iff_eq, Int.not_lt, Int.not_le, Int.ofNat_lt, Int.ofNat_le] at hQz); first | trivial | omega)))
    | (apply Awp.reg; (case hn => (simp only [List.length_cons, List.length_nil, Nat.reduceAdd] <;> rfl)))
    | (refine Awp.exit ?_; try simp only [go_sem, *])
    | (apply Awp.cond; (case hc => (simp only [go_sem, *] <;> rfl)); all_goals (intro hg; (try simp only [Bool.not_true, Bool.not_false, reduceCtorEq] at hg)))
    | refine Awp.seq ?_
    | (apply sl_a; (case hc => rfl); (case he => (simp only [go_sem, *] <;> rfl)); (case hu => (simp only [updL_nil, updL_cons] <;> rfl)); (case hl => (simp only [List.map_cons, List.map_nil] <;> rfl)); (case hp => first | trivial))
    | (apply sl_gn; (case hv => (simp only [go_sem, *] <;> rfl)); (case hbw => rfl))
    | (apply sl_ga; (case hb => rfl); (case hv => (simp only [go_sem, *] <;> rfl)); (case he => (simp only [go_sem, *] <;> rfl)); (case hu => (simp only [updL_nil, updL_cons] <;> rfl)); (case hl => (simp only [List.map_cons, List.map_nil] <;> rfl)); (case hp => first | trivial | omega))
    | (apply sl_c; (case hc => (simp only [go_sem, *] <;> rfl)); (case hl => (simp only [go_sem, *] <;> rfl)); (case hn => (simp only [go_sem, *] <;> rfl)); (case hp => first | exact hc | (have hXz := hc; simp only [go_sem, *] at hXz; exact hXz)); (case hd => first | exact .inl rfl | exact .inr (.v _) | exact .inr .any | exact .inr .nils); (case hm => first | decide | (simp; done)))
    | (refine sl_nil (And.intro (by first | exact drawOk_of (by decide +kernel) | (simp only [List.map_cons, List.map_nil]; exact drawOk_of (by decide +kernel)) | decide) ?_)))
              have hr : ∀ k, k < 7 → rn nm 246 k = k := fun k hk => by unfold rn; rw [if_neg (by omega)]
              have hrn : rn nm 246 nm = 246 := by unfold rn; rw [if_pos rfl]
              refine ⟨.inl rfl, 246, by omega, .tup rfl fun j hj => by simp at hj, fun k b' hk => ?_⟩
              have hnm0 : (0 : Nat) ≠ nm := by omega
              have hnm1 : (1 : Nat) ≠ nm := by omega
              have hnm2 : (2 : Nat) ≠ nm := by omega
              have hnm3 : (3 : Nat) ≠ nm := by omega
              have hnm4 : (4 : Nat) ≠ nm := by omega
              have hnm5 : (5 : Nat) ≠ nm := by omega
              have hnm6 : (6 : Nat) ≠ nm := by omega
              by_cases h4 : k = 4
              · subst h4
                have e1 : b' = .box [.v (.int .i64 j)] := by simpa [updL, upd, hnm4] using hk.symm
                subst e1
                rw [hr 4 (by omega)]
                exact ⟨_, rfl, .box rfl fun j hj => .low (by match j, hj with | 0, _ => exact .same _ rfl)⟩
              by_cases h0 : k = 0
              · subst h0
                have e1 : b' = .box [.sl (sps a)] := by simpa [updL, upd, hnm0] using hk.symm
                subst e1
                rw [hr 0 (by omega)]
                exact ⟨_, rfl, .box rfl fun j hj => .low (by match j, hj with | 0, _ => exact .same _ rfl)⟩
              by_cases h5 : k = 5
              · subst h5
                have e1 : b' = .box [.v (.int .i64 l)] := by simpa [updL, upd, hnm5] using hk.symm
                subst e1
                rw [hr 5 (by omega)]
                exact ⟨_, rfl, .box rfl fun j hj => .low (by match j, hj with | 0, _ => exact .same _ rfl)⟩
              by_cases h1 : k = 1
              · subst h1
                have e1 : b' = .box [.sl (sps b)] := by simpa [updL, upd, hnm1] using hk.symm
                subst e1
                rw [hr 1 (by omega)]
                exact ⟨_, rfl, .box rfl fun j hj => .low (by match j, hj with | 0, _ => exact .same _ rfl)⟩
              by_cases h2 : k = 2
              · subst h2
                have e1 : b' = .box [.fn g []] := by simpa [updL, upd, hnm2] using hk.symm
                subst e1
                rw [hr 2 (by omega)]
                exact ⟨_, rfl, .box rfl fun j hj => by match j, hj with | 0, _ => exact .fn rfl fun j hj => by simp at hj⟩
              by_cases h3 : k = 3
              · subst h3
                have e1 : b' = .box [.own nm] := by simpa [updL, upd, hnm3] using hk.symm
                subst e1
                rw [hr 3 (by omega)]
                exact ⟨_, rfl, .box rfl fun j hj => by match j, hj with | 0, _ => exact .own hrn (by simp)⟩
              by_cases h6 : k = 6
              · subst h6
                simp [updL, upd, hnm6] at hk
              by_cases hn : k = nm
              · subst hn
                have e1 : b' = .row (sps (O ++ [⟨p, q⟩])) 2 30 := by simpa [updL, upd, h3] using hk.symm
                subst e1
                rw [hrn]
                exact ⟨_, rfl, .row rfl⟩
              simp [updL, upd, listH, h0, h1, h2, h3, h4, h5, h6, hn] at hk
end Go.Proofs
end
section
set_option linter.unusedVariables false
set_option linter.unusedSimpArgs false
namespace Go.Proofs
open Go Go.Ab
set_option maxHeartbeats 4000000
set_option maxRecDepth 100000
set_option linter.unusedSimpArgs false
set_option linter.unusedVariables false
attribute [local irreducible] Awp aops aopsL Go.Ab.Pure PureOwn
theorem ints_two (L : List Int) (x y : Int) : ints L ++ [[.v (.int .i64 x)], [.v (.int .i64 y)]] = ints (L ++ [x, y]) := by simp [ints]
theorem ints_oneL (L : List Int) : ∀ y ∈ ints L, y.length = 1 := by
  intro y hy; obtain ⟨s, _, rfl⟩ := List.mem_map.1 hy; rfl
theorem places_step (C : List Sp) (i : Nat) (h : i < C.length) : placesS (C.take (i + 1)) = placesS (C.take i) ++ [(C.getD i zeroSp).a, (C.getD i zeroSp).b] := by
  unfold placesS
  rw [take_snocP C i h, List.flatMap_append]
  simp
theorem places_len (C : List Sp) : (placesS C).length = 2 * C.length := by
  unfold placesS
  induction C with
  | nil => rfl
  | cons s C ih => simp only [List.flatMap_cons, List.length_append, ih, List.length_cons, List.length_nil]; omega
theorem segs_snoc (f : Int → Bool) (p q : Int) : ∀ l : List Int, segs f (l ++ [p, q]) = segs f (l ++ [p]) ++ (if f p = true then [⟨p, q⟩] else [])
  | [] => by simp [segs]
  | [x] => by simp [segs]
  | x :: y :: l => by
    have := segs_snoc f p q (y :: l)
    simp only [List.cons_append] at this ⊢
    rw [segs, segs, this, List.append_assoc]
theorem segs_len (f : Int → Bool) : ∀ l : List Int, (segs f l).length ≤ l.length
  | [] => by simp [segs]
  | [x] => by simp [segs]
  | x :: y :: l => by
    have := segs_len f (y :: l)
    rw [segs, List.length_append]
    have h : (if f x = true then [(⟨x, y⟩ : Sp)] else []).length ≤ 1 := by split <;> simp
    simp only [List.length_cons] at *
    omega
theorem take_two (P : List Int) (n : Nat) (h : n < P.length) (h1 : 1 ≤ n) : P.take (n + 1) = P.take (n - 1) ++ [P.getD (n - 1) 0, P.getD n 0] ∧ P.take n = P.take (n - 1) ++ [P.getD (n - 1) 0] := by
  have e1 : P.take (n + 1) = P.take n ++ [P.getD n 0] := by
    rw [List.take_add_one, List.getElem?_eq_getElem h]
    simp [List.getD_eq_getElem?_getD, h]
  obtain ⟨m, rfl⟩ : ∃ m, n = m + 1 := ⟨n - 1, by omega⟩
  have e2 : P.take (m + 1) = P.take m ++ [P.getD m 0] := by
    rw [List.take_add_one, List.getElem?_eq_getElem (by omega)]
    simp [List.getD_eq_getElem?_getD, show m < P.length by omega]
  refine ⟨?_, by simpa using e2⟩
  rw [e1, e2]
  simp
def sw0 (ca cb : List Sp) (g : Nat) : AState := mkS [(3, .bp 0 0), (4, .bp 1 0), (5, .bp 2 0)] [(0, .box [.sl (sps ca)]), (1, .box [.sl (sps cb)]), (2, .box [.fn g []])]
def sw1 (ca cb : List Sp) (g : Nat) (C : List Sp) (L : List Int) (i : Nat) : AState := mkS [(3, .bp 0 0), (4, .bp 1 0), (5, .bp 2 0), (7, .own 3), (22, .own 4), (23, .v (.int .i64 C.length)), (24, .v (.int .i64 i))]
  [(0, .box [.sl (sps ca)]), (1, .box [.sl (sps cb)]), (2, .box [.fn g []]), (3, .row (ints L) 1 3), (4, .row (sps C) 2 30)]
def sw2 (ca cb : List Sp) (g : Nat) (O : List Sp) (P : List Int) (q : Nat × Nat × Nat) : AState := mkS [(7, .own 7), (10, .bp 3 0), (13, .fn 88 [.bp 4 0, .bp 0 0, .bp 5 0, .bp 1 0, .bp 2 0, .bp 3 0]), (14, .v (.int .i64 q.1))]
  [(0, .box [.sl (sps ca)]), (1, .box [.sl (sps cb)]), (2, .box [.fn g []]), (3, .box [.own 6]), (4, .box [.v (.int .i64 q.2.1)]), (5, .box [.v (.int .i64 q.2.2)]), (6, .row (sps O) 2 30), (7, .row (ints P) 1 3)]
theorem sweep_ok (g : Nat) (f : Bool → Bool → Bool) (hmem : ∀ x y, Pure Tryz.prog g [.v (.bool x), .v (.bool y)] (.v (.bool (f x y)))) (hff : f false false = false) (a b R : List Sp) (hal : a.length < 2000) (hbl : b.length < 2000)
    (hR : ∀ n, hasS R n ↔ f (hasB a n) (hasB b n) = true) : PureOwn Tryz.prog 57 [.sl (sps a), .sl (sps b), .fn g []] (sps (canon R)) 2 30 := by
  have c0 := normal_ok a (by omega)
  have c1 := normal_ok b (by omega)
  have hca := (canon_is a).1
  have hcb := (canon_is b).1
  have hla := canon_len a
  have hlb := canon_len b
  have hsa : ∀ n, hasB (canon a) n = hasB a n := fun n => by rw [Bool.eq_iff_iff, hasB_iff, hasB_iff, (canon_is a).2]
  have hsb : ∀ n, hasB (canon b) n = hasB b n := fun n => by rw [Bool.eq_iff_iff, hasB_iff, hasB_iff, (canon_is b).2]
  have hR' : ∀ n, hasS R n ↔ f (hasB (canon a) n) (hasB (canon b) n) = true := fun n => by rw [hsa, hsb]; exact hR n
  clear hR hsa hsb
  generalize canon a = ca at *
  generalize canon b = cb at *
  have hP := compact_sorted (sortZ (placesS (ca ++ cb))) (sortZ_asc _)
  have hPm : ∀ p, p ∈ Lib.compact (sortI (placesS (ca ++ cb))) ↔ p ∈ placesS (ca ++ cb) := fun p => (hP.2 p).trans (mem_sortZ _ _)
  have hPp : (Lib.compact (sortI (placesS (ca ++ cb)))).Pairwise (· < ·) := hP.1
  have hPl : (Lib.compact (sortI (placesS (ca ++ cb)))).length ≤ 8000 := by
    refine Nat.le_trans (compact_len _) ?_
    rw [sortI_len, places_len]; simp; omega
  have hcan : canon R = canon (segs (fun p => f (hasB ca p) (hasB cb p)) (Lib.compact (sortI (placesS (ca ++ cb))))) := canon_same fun n => (hR' n).trans (sweep_has hff hPp hPm n).symm
  rw [hcan]
  clear hR' hcan hP hPm
  have c2 := concat2 ca cb (by omega) (by omega)
  have hCl : (ca ++ cb).length < 5000 := by simp; omega
  have cs := fun (l : List Int) (h : l.length < 1000000) b nm => sort_cc l b nm 3 h
  have cc := fun (l : List Int) (h : l.length < 1000000) b nm hb => compact_cc l b nm 3 hb h
  have hpl := places_len (ca ++ cb)
  have hsl := sortI_len (placesS (ca ++ cb))
  have cs1 := cs (placesS (ca ++ cb)) (by omega)
  have cc1 := cc (sortI (placesS (ca ++ cb))) (by omega)
  obtain ⟨P, hPe⟩ : ∃ P, Lib.compact (sortI (placesS (ca ++ cb))) = P := ⟨_, rfl⟩
  rw [hPe] at cc1 hPp hPl ⊢
  clear hPe cs cc hpl hsl
  refine fn_own Tryz.F57 (Nat.le_of_ble_eq_true rfl) ?_; unfold Tryz.ac57
  (first | (apply Awp.sreg; (case hn => (simp only [List.length_cons, List.length_nil, Nat.reduceAdd] <;> rfl))) | (apply Awp.reg; (case hn => (simp only [List.length_cons, List.length_nil, Nat.reduceAdd] <;> rfl)))); repeat' (first
    | (refine st_nil ?_)
    | (apply st_a; (case hc => rfl); (case he => (simp only [go_sem, *] <;> rfl)); (case hu => (simp only [updL_nil, updL_cons] <;> rfl)); (case hp => first | trivial))
    | (apply st_m; (case hc => rfl); (case hg => (simp only [go_sem, *] <;> rfl)); (case he => (intro hQz; (try simp only [wantB_t, wantB_f, Bool.and_eq_true, Bool.not_eq_true', Bool.not_true, Bool.not_false, and_true, true_and] at hQz); simp only [go_sem, *] <;> rfl)); (case hp => (intro hQz; (try simp only [wantB_t, wantB_f, Bool.and_eq_true, Bool.not_eq_true', Bool.or_eq_false_iff, decide_eq_true_eq, decide_eq_false_iff_not, beq_iff_eq, beq_eq_false_iff_ne, bne_iff_ne, bne_eq_false_iff_eq, Int.not_lt, Int.not_le, Int.ofNat_lt, Int.ofNat_le] at hQz); first | skip; done)))
    | (apply st_gu; (case hv => (simp only [go_sem, *] <;> rfl)))
    | (apply st_g; (case hv => (simp only [go_sem, *] <;> rfl)); all_goals (intro hg; (try simp only [Bool.not_true, Bool.not_false, reduceCtorEq] at hg); (try have hg' := hg); (try simp only [decide_eq_true_eq, decide_eq_false_iff_not, Bool.and_eq_true, Bool.or_eq_false_iff, bne_iff_ne, bne_eq_false_iff_eq, beq_iff_eq, beq_eq_false_iff_ne, Int.not_lt, Int.not_le, Int.ofNat_lt, Int.ofNat_le, Int.natCast_inj] at hg'))))
  (first | (apply Awp.sdraw; (case hn => (simp only [List.length_cons, List.length_nil, Nat.reduceAdd] <;> rfl))) | (refine Awp.draw ?_)); repeat' (first
    | (refine Awp.draw ?_)
    | (apply sl_a; (case hc => rfl); (case he => (simp only [go_sem, *] <;> rfl)); (case hu => (simp only [updL_nil, updL_cons] <;> rfl)); (case hl => (simp only [List.map_cons, List.map_nil] <;> rfl)); (case hp => first | trivial))
    | (apply sl_gu; (case hv => (simp only [go_sem, *] <;> rfl)))
    | (apply sl_gn; (case hv => (simp only [go_sem, *] <;> rfl)); (case hbw => rfl))
    | (apply sl_ga; (case hb => rfl); (case hv => (simp only [go_sem, *] <;> rfl)); (case he => (simp only [go_sem, *] <;> rfl)); (case hu => (simp only [updL_nil, updL_cons] <;> rfl)); (case hl => (simp only [List.map_cons, List.map_nil] <;> rfl)); (case hp => first | skip; done))
    | (apply sl_co; (case hc => (simp only [go_sem, *] <;> rfl)); (case hl => (simp only [go_sem, *] <;> rfl)); (case hn => (simp only [go_sem, *] <;> rfl)); (case hp => first | exact c0 | (have hXz := c0; simp only [go_sem, *] at hXz; exact hXz)))
    | (apply sl_cod; (case hc => (simp only [go_sem, *] <;> rfl)); (case hl => (simp only [go_sem, *] <;> rfl)); (case hn => (simp only [go_sem, *] <;> rfl)); (case hp => first | exact c0 | (have hXz := c0; simp only [go_sem, *] at hXz; exact hXz)); (case hd => first | exact sps_dry _ | exact ints_dry _ | (repeat' (first | exact Dry.v _ | exact Dry.any | exact Dry.nils | exact Dry.slE | refine Dry.agg ?_ | refine Dry.tup ?_ | (refine List.forall_mem_cons.2 (And.intro ?_ ?_)) | (intro cQ hQ; cases hQ; done)))); (case hm => first | decide | (simp; done)))
    | (apply sl_cog; (case hop => rfl); (case hv => (simp only [go_sem, *] <;> rfl)); (case hc => (simp only [go_sem, *] <;> rfl)); (case hl => (simp only [go_sem, *] <;> rfl)); (case hn => (simp only [go_sem, *] <;> rfl)); (case hp => first | exact c0 | (have hXz := c0; simp only [go_sem, *] at hXz; exact hXz)); (case hd => first | exact sps_dry _ | exact ints_dry _ | (repeat' (first | exact Dry.v _ | exact Dry.any | exact Dry.nils | exact Dry.slE | refine Dry.agg ?_ | refine Dry.tup ?_ | (refine List.forall_mem_cons.2 (And.intro ?_ ?_)) | (intro cQ hQ; cases hQ; done)))); (case hm => first | decide | (simp; done)))
    | (apply sl_co; (case hc => (simp only [go_sem, *] <;> rfl)); (case hl => (simp only [go_sem, *] <;> rfl)); (case hn => (simp only [go_sem, *] <;> rfl)); (case hp => first | exact c1 | (have hXz := c1; simp only [go_sem, *] at hXz; exact hXz)))
    | (apply sl_cod; (case hc => (simp only [go_sem, *] <;> rfl)); (case hl => (simp only [go_sem, *] <;> rfl)); (case hn => (simp only [go_sem, *] <;> rfl)); (case hp => first | exact c1 | (have hXz := c1; simp only [go_sem, *] at hXz; exact hXz)); (case hd => first | exact sps_dry _ | exact ints_dry _ | (repeat' (first | exact Dry.v _ | exact Dry.any | exact Dry.nils | exact Dry.slE | refine Dry.agg ?_ | refine Dry.tup ?_ | (refine List.forall_mem_cons.2 (And.intro ?_ ?_)) | (intro cQ hQ; cases hQ; done)))); (case hm => first | decide | (simp; done)))
    | (apply sl_cog; (case hop => rfl); (case hv => (simp only [go_sem, *] <;> rfl)); (case hc => (simp only [go_sem, *] <;> rfl)); (case hl => (simp only [go_sem, *] <;> rfl)); (case hn => (simp only [go_sem, *] <;> rfl)); (case hp => first | exact c1 | (have hXz := c1; simp only [go_sem, *] at hXz; exact hXz)); (case hd => first | exact sps_dry _ | exact ints_dry _ | (repeat' (first | exact Dry.v _ | exact Dry.any | exact Dry.nils | exact Dry.slE | refine Dry.agg ?_ | refine Dry.tup ?_ | (refine List.forall_mem_cons.2 (And.intro ?_ ?_)) | (intro cQ hQ; cases hQ; done)))); (case hm => first | decide | (simp; done)))
    | (apply sl_case; (case hv => (simp only [go_sem, *] <;> rfl)); all_goals (intro hg; (try simp only [Bool.not_true, Bool.not_false, reduceCtorEq] at hg); (try have hg' := hg); (try simp only [decide_eq_true_eq, decide_eq_false_iff_not, Bool.and_eq_true, Bool.or_eq_false_iff, bne_iff_ne, bne_eq_false_iff_eq, beq_iff_eq, beq_eq_false_iff_ne, Int.not_lt, Int.not_le, Int.ofNat_lt, Int.ofNat_le, Int.natCast_inj] at hg')))
    | (refine sl_nil (And.intro (by first | exact drawOk_of (by decide +kernel) | (simp only [List.map_cons, List.map_nil]; exact drawOk_of (by decide +kernel)) | decide) ?_)))
  refine Awp.ghost (nx' := 20) (S' := sw0 ca cb g) (by
    unfold sw0
    (apply Ghost.mk [] [5, 7]; (case hdead => rfl); (case hinj => rfl); (case hV => (simp only [go_sem, *]) <;> (repeat' (first | refine And.intro ?_ ?_ | exact .bp rfl (by decide)))); (case hB => (simp only [go_sem, *]) <;> (repeat' (first | refine And.intro ?_ ?_ | exact ⟨_, rfl, BView.fn0⟩ | exact ⟨_, rfl, BView.lowO (by first | rfl | (simp only [go_sem, *] <;> rfl)) (by first | rfl | omega | (simp; done) | (rw [wrap_i64] <;> (try simp only [Int.natCast_add]) <;> omega) | (simp [*]; done))⟩))))) ?_
  clear c0 c1
  obtain ⟨C, hC⟩ : ∃ C, ca ++ cb = C := ⟨_, rfl⟩
  rw [hC] at c2 hCl cs1 cc1
  clear hC
  unfold sw0
  repeat' (first
    | (apply Awp.sreg; (case hn => (simp only [List.length_cons, List.length_nil, Nat.reduceAdd] <;> rfl)))
    | (refine st_nil ?_)
    | (apply st_a; (case hc => rfl); (case he => (simp only [go_sem, *] <;> rfl)); (case hu => (simp only [updL_nil, updL_cons] <;> rfl)); (case hp => first | trivial | (simp; done)))
    | (apply st_cod; (case hc => (simp only [go_sem, *] <;> rfl)); (case hl => (simp only [go_sem, *] <;> rfl)); (case hn => (simp only [go_sem, *] <;> rfl)); (case hp => first | exact c2 | (have hXz := c2; simp only [go_sem, *] at hXz; exact hXz)); (case hd => first | exact sps_dry _ | exact ints_dry _ | (repeat' (first | exact Dry.v _ | exact Dry.any | exact Dry.nils | exact Dry.slE | refine Dry.agg ?_ | refine Dry.tup ?_ | (refine List.forall_mem_cons.2 (And.intro ?_ ?_)) | (intro cQ hQ; cases hQ; done)))); (case hm => first | decide | (simp; done)))
    | refine Awp.block ?_
    | refine Awp.seq ?_)
  clear c2
  refine Awp.loop (fun i : Nat => i ≤ C.length) 100 (fun i => sw1 ca cb g C (placesS (C.take i)) i) (fun i => C.length - i) 0 (by omega) ?_ ?_
  · refine Ghost.trans (Ghost.name 7 1 3 rfl (by decide)) ?_
    have e1 : placesS (C.take 0) = [] := rfl
    rw [e1]
    unfold sw1
    (apply Ghost.mk [(3, 27), (4, 24)] []; (case hdead => rfl); (case hinj => rfl); (case hV => (simp only [go_sem, *]) <;> (repeat' (first | refine And.intro ?_ ?_ | exact View.int (by first | rfl | omega | (simp; done) | (rw [wrap_i64] <;> (try simp only [Int.natCast_add]) <;> omega) | (simp [*]; done)) | exact .bp rfl (by decide) | exact .own rfl (by decide)))); (case hB => (simp only [go_sem, *]) <;> (repeat' (first | refine And.intro ?_ ?_ | exact ⟨_, rfl, BView.boxF rfl⟩ | exact ⟨_, rfl, .rowE (by first | rfl | omega | (simp; done) | (rw [wrap_i64] <;> (try simp only [Int.natCast_add]) <;> omega) | (simp [*]; done))⟩ | exact ⟨_, rfl, BView.fn0⟩))))
  · intro i hi
    have hCn := sps_len C
    by_cases hlt : i < C.length
    · have hlt' : (i : Int) < C.length := by omega
      have hat := sps_at C i hlt
      have hz : ((C.getD i zeroSp).cells).length = 2 := rfl
      have hst : Kept _ := places_step C i hlt
      have hLl : (placesS (C.take i)).length ≤ 2 * i := by rw [places_len]; simp; omega
      generalize placesS (C.take i) = L at *
      generalize C.getD i zeroSp = s at *
      have e2 := ints_two L s.a s.b
      have e3 := ints_oneL L
      have e4 := ints_len L
      clear cs1 cc1
      unfold sw1
      repeat' (first
    | (apply Awp.sreg; (case hn => (simp only [List.length_cons, List.length_nil, Nat.reduceAdd] <;> rfl)))
    | (refine st_nil ?_)
    | (apply st_a; (case hc => rfl); (case he => (simp only [go_sem, *] <;> rfl)); (case hu => (simp only [updL_nil, updL_cons] <;> rfl)); (case hp => first | trivial | omega | (simp; done) | (simp; omega)))
    | (apply Awp.reg; (case hn => (simp only [List.length_cons, List.length_nil, Nat.reduceAdd] <;> rfl)))
    | (refine Awp.skip ?_; try simp only [go_sem, *])
    | refine Awp.block ?_
    | (apply Awp.cond; (case hc => (simp only [go_sem, *] <;> rfl)); all_goals (intro hg; (try simp only [Bool.not_true, Bool.not_false, reduceCtorEq] at hg)))
    | refine Awp.seq ?_)
      refine ⟨i + 1, by omega, by omega, ?_⟩
      rw [hst.out]
      (apply Ghost.mk [(3, 111)] []; (case hdead => rfl); (case hinj => rfl); (case hV => (simp only [go_sem, *]) <;> (repeat' (first | refine And.intro ?_ ?_ | exact View.int (by first | rfl | omega | (simp; done) | (rw [wrap_i64] <;> (try simp only [Int.natCast_add]) <;> omega) | (simp [*]; done)) | exact .bp rfl (by decide) | exact .own rfl (by decide)))); (case hB => (simp only [go_sem, *]) <;> (repeat' (first | refine And.intro ?_ ?_ | exact ⟨_, rfl, BView.boxF rfl⟩ | exact ⟨_, rfl, .rowE (by first | rfl | omega | (simp; done) | (rw [wrap_i64] <;> (try simp only [Int.natCast_add]) <;> omega) | (simp [*]; done))⟩ | exact ⟨_, rfl, BView.fn0⟩))))
    · have hlt' : ¬ (i : Int) < C.length := by omega
      have e1 : C.take i = C := List.take_of_length_le (by omega)
      rw [e1]
      clear e1 hlt
      unfold sw1
      repeat' (first
    | (apply Awp.sreg; (case hn => (simp only [List.length_cons, List.length_nil, Nat.reduceAdd] <;> rfl)))
    | (refine st_nil ?_)
    | (apply st_a; (case hc => rfl); (case he => (simp only [go_sem, *] <;> rfl)); (case hu => (simp only [updL_nil, updL_cons] <;> rfl)); (case hp => first | trivial))
    | (apply st_cc; (case hc => (simp only [go_sem, *] <;> rfl)); (case hcc => exact (cs1 _ _)); (case hh => (first | (simp only [List.mem_singleton, forall_eq]; first | (simp only [go_sem, *] <;> rfl) | (simp only [go_sem, *]; simp [ints])) | (intro p hp; cases hp; done) | (intro p hp; simp only [List.mem_cons, List.not_mem_nil, or_false] at hp; rcases hp with rfl | rfl | rfl | rfl | rfl | rfl | rfl <;> (simp only [go_sem, *] <;> rfl)) | (intro p hp; simp only [List.mem_cons, List.not_mem_nil, or_false] at hp; rcases hp with rfl | rfl | rfl | rfl <;> (simp only [go_sem, *] <;> rfl)))); (case hu => (first | (simp; done) | decide)); (case hm => (first | decide | (simp; done))); (case hw => (simp only [updL_nil, updL_cons] <;> rfl)))
    | (apply st_cc; (case hc => (simp only [go_sem, *] <;> rfl)); (case hcc => exact (cc1 _ _ (by decide))); (case hh => (first | (simp only [List.mem_singleton, forall_eq]; first | (simp only [go_sem, *] <;> rfl) | (simp only [go_sem, *]; simp [ints])) | (intro p hp; cases hp; done) | (intro p hp; simp only [List.mem_cons, List.not_mem_nil, or_false] at hp; rcases hp with rfl | rfl | rfl | rfl | rfl | rfl | rfl <;> (simp only [go_sem, *] <;> rfl)) | (intro p hp; simp only [List.mem_cons, List.not_mem_nil, or_false] at hp; rcases hp with rfl | rfl | rfl | rfl <;> (simp only [go_sem, *] <;> rfl)))); (case hu => (first | (simp; done) | decide)); (case hm => (first | decide | (simp; done))); (case hw => (simp only [updL_nil, updL_cons] <;> rfl)))
    | (refine Awp.exit ?_; try simp only [go_sem, *])
    | refine Awp.block ?_
    | (apply Awp.cond; (case hc => (simp only [go_sem, *] <;> rfl)); all_goals (intro hg; (try simp only [Bool.not_true, Bool.not_false, reduceCtorEq] at hg)))
    | refine Awp.seq ?_)
      clear cs1 cc1
      refine Awp.loop (fun q : Nat × Nat × Nat => 1 ≤ q.1 ∧ (q.1 = 1 ∨ q.1 ≤ P.length) ∧ (q.1 < P.length → q.2.1 ≤ nx ca (P.getD (q.1 - 1) 0) ∧ q.2.2 ≤ nx cb (P.getD (q.1 - 1) 0))) 200
        (fun q => sw2 ca cb g (segs (fun p => f (hasB ca p) (hasB cb p)) (P.take q.1)) P q) (fun q => P.length - q.1) (1, 0, 0) ⟨Nat.le_refl _, .inl rfl, fun _ => ⟨Nat.zero_le _, Nat.zero_le _⟩⟩ ?_ ?_
      · refine Ghost.trans (Ghost.nameBox 106 2 30 rfl (by decide)) ?_
        have e1 : segs (fun p => f (hasB ca p) (hasB cb p)) (P.take 1) = [] := by
          cases P with
          | nil => rfl
          | cons p P => rfl
        unfold sw2
        dsimp only
        rw [e1]
        (apply Ghost.mk [(3, 106), (4, 107), (5, 108), (6, 114), (7, 104)] []; (case hdead => rfl); (case hinj => rfl); (case hV => (simp only [go_sem, *]) <;> (repeat' (first | refine And.intro ?_ ?_ | exact View.int (by first | rfl | omega | (simp; done) | (rw [wrap_i64] <;> (try simp only [Int.natCast_add]) <;> omega) | (simp [*]; done)) | exact .bp rfl (by decide) | exact .own rfl (by decide) | exact View.fn6 rfl rfl rfl rfl rfl rfl (by decide)))); (case hB => (simp only [go_sem, *]) <;> (repeat' (first | refine And.intro ?_ ?_ | exact ⟨_, rfl, BView.boxF rfl⟩ | exact ⟨_, rfl, BView.own1 rfl (by decide)⟩ | exact ⟨_, rfl, .rowE (by first | rfl | omega | (simp; done) | (rw [wrap_i64] <;> (try simp only [Int.natCast_add]) <;> omega) | (simp [*]; done))⟩ | exact ⟨_, rfl, BView.fn0⟩))))
      · rintro ⟨n, i, k⟩ ⟨hn1, hn2, hik⟩
        dsimp only at hn1 hn2 hik
        have hPn := ints_len P
        by_cases hlt : n < P.length
        · obtain ⟨hi', hk'⟩ := hik hlt
          obtain ⟨t1, t2⟩ := take_two P n hlt hn1
          have hat1 := ints_at P (n - 1) (by omega)
          have hat2 := ints_at P n hlt
          have hpq : P.getD (n - 1) 0 < P.getD n 0 := by
            have := List.pairwise_iff_getElem.1 hPp (n - 1) n (by omega) hlt (by omega)
            simpa [List.getD_eq_getElem?_getD, hlt, show n - 1 < P.length by omega] using this
          have hlt' : (n : Int) < P.length := by omega
          have hlt1 : ((n - 1 : Nat) : Int) < P.length := by omega
          have hw1 : IntKind.i64.wrap ((n : Int) - 1) = ((n - 1 : Nat) : Int) := by rw [wrap_i64 (by omega) (by omega)]; omega
          have hw2 : IntKind.i64.wrap ((n : Int) + 1) = ((n + 1 : Nat) : Int) := by rw [wrap_i64 (by omega) (by omega)]; simp
          have hO : (segs (fun p => f (hasB ca p) (hasB cb p)) (P.take n)).length < 100000 := by
            have := segs_len (fun p => f (hasB ca p) (hasB cb p)) (P.take n)
            simp at this; omega
          have hs := segs_snoc (fun p => f (hasB ca p) (hasB cb p)) (P.getD (n - 1) 0) (P.getD n 0) (P.take (n - 1))
          rw [← t1, ← t2] at hs
          have mn : ∀ c : List Sp, nx c (P.getD (n - 1) 0) ≤ nx c (P.getD n 0) := fun c => nx_mono (by omega)
          have ma := mn ca
          have mb := mn cb
          have hnx : (n + 1) - 1 = n := by omega
          generalize segs (fun p => f (hasB ca p) (hasB cb p)) (P.take n) = O at *
          obtain ⟨p, hp⟩ : ∃ p, P.getD (n - 1) 0 = p := ⟨_, rfl⟩
          obtain ⟨q, hq⟩ : ∃ q, P.getD n 0 = q := ⟨_, rfl⟩
          rw [hp] at hat1 hs ma mb hi' hk'
          have hq' : Kept (P.getD n 0 = q) := hq
          rw [hq] at hat2 hs ma mb
          clear hq hp mn hpq t1 t2 hik hPp
          cases hF : f (hasB ca p) (hasB cb p)
          · have hs' : Kept (segs (fun p => f (hasB ca p) (hasB cb p)) (P.take (n + 1)) = O) := by unfold Kept; rw [hs, hF]; simp
            have cst := fun nm h => step_no ca cb O g f hmem hca hcb (by omega) (by omega) hO p q i k nm hi' hk' h hF
            unfold stArgs stHl at cst
            generalize nx ca p = I at *
            generalize nx cb p = J at *
            clear hs hF hmem hca hcb
            unfold sw2
            dsimp only
            repeat' (first
    | (apply Awp.sreg; (case hn => (simp only [List.length_cons, List.length_nil, Nat.reduceAdd] <;> rfl)))
    | (refine st_nil ?_)
    | (apply st_a; (case hc => rfl); (case he => (simp only [go_sem, *] <;> rfl)); (case hu => (simp only [updL_nil, updL_cons] <;> rfl)); (case hp => first | trivial))
    | (apply Awp.reg; (case hn => (simp only [List.length_cons, List.length_nil, Nat.reduceAdd] <;> rfl)))
    | (refine Awp.skip ?_; try simp only [go_sem, *])
    | refine Awp.block ?_
    | (apply Awp.cond; (case hc => (simp only [go_sem, *] <;> rfl)); all_goals (intro hg; (try simp only [Bool.not_true, Bool.not_false, reduceCtorEq] at hg)))
    | refine Awp.seq ?_
    | (refine Awp.draw ?_)
    | (apply sl_a; (case hc => rfl); (case he => (simp only [go_sem, *] <;> rfl)); (case hu => (simp only [updL_nil, updL_cons] <;> rfl)); (case hl => (simp only [List.map_cons, List.map_nil] <;> rfl)); (case hp => first | trivial | omega))
    | (apply sl_cc; (case hc => (simp only [go_sem, *] <;> rfl)); (case hcc => exact (cst _ (by omega))); (case hh => (first | (simp only [List.mem_singleton, forall_eq]; first | (simp only [go_sem, *] <;> rfl) | (simp only [go_sem, *]; simp [ints])) | (intro p hp; cases hp; done) | (intro p hp; simp only [List.mem_cons, List.not_mem_nil, or_false] at hp; rcases hp with rfl | rfl | rfl | rfl | rfl | rfl | rfl <;> (simp only [go_sem, *] <;> rfl)) | (intro p hp; simp only [List.mem_cons, List.not_mem_nil, or_false] at hp; rcases hp with rfl | rfl | rfl | rfl <;> (simp only [go_sem, *] <;> rfl)))); (case hu => (first | (simp; done) | decide)); (case hm => (first | decide | (simp; done))); (case hw => (simp only [updL_nil, updL_cons] <;> rfl)))
    | (refine sl_nil (And.intro (by first | exact drawOk_of (by decide +kernel) | (simp only [List.map_cons, List.map_nil]; exact drawOk_of (by decide +kernel)) | decide) ?_)))
            refine ⟨(n + 1, I, J), ⟨by dsimp only; omega, .inr (by dsimp only; omega), fun _ => ?_⟩, by dsimp only; omega, ?_⟩
            · dsimp only
              rw [hnx, hq'.out]
              exact ⟨ma, mb⟩
            dsimp only
            rw [hs'.out]
            (apply Ghost.mk [] []; (case hdead => rfl); (case hinj => rfl); (case hV => (simp only [go_sem, *]) <;> (repeat' (first | refine And.intro ?_ ?_ | exact .bp rfl (by decide) | exact .own rfl (by decide) | exact View.fn6 rfl rfl rfl rfl rfl rfl (by decide)))); (case hB => (simp only [go_sem, *]) <;> (repeat' (first | refine And.intro ?_ ?_ | exact ⟨_, rfl, BView.boxF rfl⟩ | exact ⟨_, rfl, BView.own1 rfl (by decide)⟩ | exact ⟨_, rfl, .rowE (by first | rfl | omega | (simp; done) | (rw [wrap_i64] <;> (try simp only [Int.natCast_add]) <;> omega) | (simp [*]; done))⟩ | exact ⟨_, rfl, BView.fn0⟩))))
          · have hs' : Kept (segs (fun p => f (hasB ca p) (hasB cb p)) (P.take (n + 1)) = O ++ [⟨p, q⟩]) := by unfold Kept; rw [hs, hF]; simp
            have cst := fun nm h => step_yes ca cb O g f hmem hca hcb (by omega) (by omega) hO p q i k nm hi' hk' h hF
            unfold stArgs stHl at cst
            generalize nx ca p = I at *
            generalize nx cb p = J at *
            clear hs hF hmem hca hcb
            unfold sw2
            dsimp only
            repeat' (first
    | (apply Awp.sreg; (case hn => (simp only [List.length_cons, List.length_nil, Nat.reduceAdd] <;> rfl)))
    | (refine st_nil ?_)
    | (apply st_a; (case hc => rfl); (case he => (simp only [go_sem, *] <;> rfl)); (case hu => (simp only [updL_nil, updL_cons] <;> rfl)); (case hp => first | trivial))
    | (apply Awp.reg; (case hn => (simp only [List.length_cons, List.length_nil, Nat.reduceAdd] <;> rfl)))
    | (refine Awp.skip ?_; try simp only [go_sem, *])
    | refine Awp.block ?_
    | (apply Awp.cond; (case hc => (simp only [go_sem, *] <;> rfl)); all_goals (intro hg; (try simp only [Bool.not_true, Bool.not_false, reduceCtorEq] at hg)))
    | refine Awp.seq ?_
    | (refine Awp.draw ?_)
    | (apply sl_a; (case hc => rfl); (case he => (simp only [go_sem, *] <;> rfl)); (case hu => (simp only [updL_nil, updL_cons] <;> rfl)); (case hl => (simp only [List.map_cons, List.map_nil] <;> rfl)); (case hp => first | trivial | omega))
    | (apply sl_cc; (case hc => (simp only [go_sem, *] <;> rfl)); (case hcc => exact (cst _ (by omega))); (case hh => (first | (simp only [List.mem_singleton, forall_eq]; first | (simp only [go_sem, *] <;> rfl) | (simp only [go_sem, *]; simp [ints])) | (intro p hp; cases hp; done) | (intro p hp; simp only [List.mem_cons, List.not_mem_nil, or_false] at hp; rcases hp with rfl | rfl | rfl | rfl | rfl | rfl | rfl <;> (simp only [go_sem, *] <;> rfl)) | (intro p hp; simp only [List.mem_cons, List.not_mem_nil, or_false] at hp; rcases hp with rfl | rfl | rfl | rfl <;> (simp only [go_sem, *] <;> rfl)))); (case hu => (first | (simp; done) | decide)); (case hm => (first | decide | (simp; done))); (case hw => (simp only [updL_nil, updL_cons] <;> rfl)))
    | (refine sl_nil (And.intro (by first | exact drawOk_of (by decide +kernel) | (simp only [List.map_cons, List.map_nil]; exact drawOk_of (by decide +kernel)) | decide) ?_)))
            refine ⟨(n + 1, I, J), ⟨by dsimp only; omega, .inr (by dsimp only; omega), fun _ => ?_⟩, by dsimp only; omega, ?_⟩
            · dsimp only
              rw [hnx, hq'.out]
              exact ⟨ma, mb⟩
            dsimp only
            rw [hs'.out]
            (apply Ghost.mk [(6, 214)] []; (case hdead => rfl); (case hinj => rfl); (case hV => (simp only [go_sem, *]) <;> (repeat' (first | refine And.intro ?_ ?_ | exact .bp rfl (by decide) | exact .own rfl (by decide) | exact View.fn6 rfl rfl rfl rfl rfl rfl (by decide)))); (case hB => (simp only [go_sem, *]) <;> (repeat' (first | refine And.intro ?_ ?_ | exact ⟨_, rfl, BView.boxF rfl⟩ | exact ⟨_, rfl, BView.own1 rfl (by decide)⟩ | exact ⟨_, rfl, .rowE (by first | rfl | omega | (simp; done) | (rw [wrap_i64] <;> (try simp only [Int.natCast_add]) <;> omega) | (simp [*]; done))⟩ | exact ⟨_, rfl, BView.fn0⟩))))
        · have hlt' : ¬ (n : Int) < P.length := by omega
          have e1 : P.take n = P := List.take_of_length_le (by omega)
          rw [e1]
          have hO := segs_len (fun p => f (hasB ca p) (hasB cb p)) P
          have cn := normal_ok (segs (fun p => f (hasB ca p) (hasB cb p)) P) (by omega)
          generalize segs (fun p => f (hasB ca p) (hasB cb p)) P = O at *
          clear hmem hca hcb hik hPp e1
          unfold sw2
          dsimp only
          repeat' (first
    | (apply Awp.sreg; (case hn => (simp only [List.length_cons, List.length_nil, Nat.reduceAdd] <;> rfl)))
    | (refine st_nil ?_)
    | (apply st_a; (case hc => rfl); (case he => (simp only [go_sem, *] <;> rfl)); (case hu => (simp only [updL_nil, updL_cons] <;> rfl)); (case hp => first | trivial))
    | (apply st_cod; (case hc => (simp only [go_sem, *] <;> rfl)); (case hl => (simp only [go_sem, *] <;> rfl)); (case hn => (simp only [go_sem, *] <;> rfl)); (case hp => first | exact cn | (have hXz := cn; simp only [go_sem, *] at hXz; exact hXz)); (case hd => first | exact sps_dry _ | exact ints_dry _ | (repeat' (first | exact Dry.v _ | exact Dry.any | exact Dry.nils | exact Dry.slE | refine Dry.agg ?_ | refine Dry.tup ?_ | (refine List.forall_mem_cons.2 (And.intro ?_ ?_)) | (intro cQ hQ; cases hQ; done)))); (case hm => first | decide | (simp; done)))
    | (refine Awp.ret ?_; try simp only [go_sem, *])
    | (refine Awp.exit ?_; try simp only [go_sem, *])
    | (apply Awp.cond; (case hc => (simp only [go_sem, *] <;> rfl)); all_goals (intro hg; (try simp only [Bool.not_true, Bool.not_false, reduceCtorEq] at hg)))
    | refine Awp.seq ?_)
          exact ⟨_, rfl, rfl⟩
end Go.Proofs
end
section
set_option linter.unusedVariables false
set_option linter.unusedSimpArgs false
namespace Go.Proofs
open Go Go.Ab
set_option maxHeartbeats 4000000
set_option maxRecDepth 100000
set_option linter.unusedSimpArgs false
set_option linter.unusedVariables false
attribute [local irreducible] Awp aops aopsL Go.Ab.Pure PureOwn
theorem stys_snoc (l : List Sty) (x : Sty) : stys l ++ [x.cells] = stys (l ++ [x]) := by simp [stys]
theorem dstays_ok (l : List Sty) (hl : l.length < 900000) : PureOwn Tryz.prog 27 [.sl (stys l)] (stys l) 8 78 := by
  refine fn_own Tryz.F27 (Nat.le_of_ble_eq_true rfl) ?_; unfold Tryz.ac27
  repeat' (first
    | (apply Awp.sreg; (case hn => (simp only [List.length_cons, List.length_nil, Nat.reduceAdd] <;> rfl)))
    | (refine st_nil ?_)
    | (apply st_a; (case hc => rfl); (case he => (simp only [go_sem, *] <;> rfl)); (case hu => (simp only [updL_nil, updL_cons] <;> rfl)); (case hp => first | trivial))
    | refine Awp.block ?_
    | refine Awp.seq ?_)
  refine Awp.loop (fun i : Nat => i ≤ l.length) 40 (fun i => mkS [(3, .own 0), (6, .sl (stys l)), (7, .v (.int .i64 l.length)), (8, .v (.int .i64 i))] [(0, .row (stys (l.take i)) 8 78)]) (fun i => l.length - i) 0 (by omega) ?_ ?_
  · refine Ghost.trans (Ghost.name 3 8 78 rfl (by decide)) ?_
    have e1 : l.take 0 = [] := rfl
    rw [e1]
    (apply Ghost.mk [(0, 5)] []; (case hdead => rfl); (case hinj => rfl); (case hV => (simp only [go_sem, *]) <;> (repeat' (first | refine And.intro ?_ ?_ | exact View.int (by first | rfl | omega | (simp; done) | (rw [wrap_i64] <;> (try simp only [Int.natCast_add]) <;> omega) | (simp [*]; done)) | exact .own rfl (by decide)))); (case hB => (simp only [go_sem, *]) <;> (repeat' (first | exact ⟨_, rfl, .rowE (by first | rfl | omega | (simp; done) | (rw [wrap_i64] <;> (try simp only [Int.natCast_add]) <;> omega) | (simp [*]; done))⟩))))
  · intro i hi
    by_cases hlt : i < l.length
    · have hlt' : (i : Int) < l.length := by omega
      have hat := stys_at l i hlt
      have hz : ((l.getD i zeroSty).cells).length = 8 := rfl
      have htl : (l.take i).length = i := List.length_take_of_le hi
      have hst := take_snoc l zeroSty i hlt
      repeat' (first
    | (apply Awp.sreg; (case hn => (simp only [List.length_cons, List.length_nil, Nat.reduceAdd] <;> rfl)))
    | (refine st_nil ?_)
    | (apply st_a; (case hc => rfl); (case he => (simp only [go_sem, *] <;> rfl)); (case hu => (simp only [updL_nil, updL_cons] <;> rfl)); (case hp => first | trivial | omega | (simp; done) | (simp; omega)))
    | (apply Awp.reg; (case hn => (simp only [List.length_cons, List.length_nil, Nat.reduceAdd] <;> rfl)))
    | (refine Awp.skip ?_; try simp only [go_sem, *])
    | refine Awp.block ?_
    | (apply Awp.cond; (case hc => (simp only [go_sem, *] <;> rfl)); all_goals (intro hg; (try simp only [Bool.not_true, Bool.not_false, reduceCtorEq] at hg)))
    | refine Awp.seq ?_)
      refine ⟨i + 1, by omega, by omega, ?_⟩
      (apply Ghost.mk [(0, 60)] []; (case hdead => rfl); (case hinj => rfl); (case hV => (simp only [go_sem, *]) <;> (repeat' (first | refine And.intro ?_ ?_ | exact View.int (by first | rfl | exact stys_snoc _ _ | omega | (simp; done) | (rw [wrap_i64] <;> (try simp only [Int.natCast_add]) <;> omega) | (simp [*]; done)) | exact .own rfl (by decide)))); (case hB => (simp only [go_sem, *]) <;> (repeat' (first | exact ⟨_, rfl, .rowE (by first | rfl | exact stys_snoc _ _ | omega | (simp; done) | (rw [wrap_i64] <;> (try simp only [Int.natCast_add]) <;> omega) | (simp [*]; done))⟩))))
    · have hlt' : ¬ (i : Int) < l.length := by omega
      have e1 : l.take i = l := List.take_of_length_le (by omega)
      repeat' (first
    | (apply Awp.sreg; (case hn => (simp only [List.length_cons, List.length_nil, Nat.reduceAdd] <;> rfl)))
    | (refine st_nil ?_)
    | (apply st_a; (case hc => rfl); (case he => (simp only [go_sem, *] <;> rfl)); (case hu => (simp only [updL_nil, updL_cons] <;> rfl)); (case hp => first | trivial))
    | (refine Awp.ret ?_; try simp only [go_sem, *])
    | (refine Awp.exit ?_; try simp only [go_sem, *])
    | (apply Awp.cond; (case hc => (simp only [go_sem, *] <;> rfl)); all_goals (intro hg; (try simp only [Bool.not_true, Bool.not_false, reduceCtorEq] at hg)))
    | refine Awp.seq ?_)
      exact ⟨0, rfl, rfl⟩
theorem indexK_ok (l : List Sty) (g : Nat) (cs : List AV) (p : Sty → Bool) (hl : l.length < 1000000) (hp : ∀ x : Sty, Pure Tryz.prog g [x.av, .rp cs] (.v (.bool (p x)))) :
    Pure Tryz.prog 47 [.sl (stys l), .fn g [.rp cs]] (.v (.int .i64 (idxF p l))) := by
  refine fn_pure Tryz.F47 (Nat.le_of_ble_eq_true rfl) ?_; unfold Tryz.ac47
  repeat' (first
    | (apply Awp.sreg; (case hn => (simp only [List.length_cons, List.length_nil, Nat.reduceAdd] <;> rfl)))
    | (refine st_nil ?_)
    | (apply st_a; (case hc => rfl); (case he => (simp only [go_sem, *] <;> rfl)); (case hu => (simp only [updL_nil, updL_cons] <;> rfl)); (case hp => first | trivial))
    | refine Awp.block ?_
    | refine Awp.seq ?_)
  refine Awp.loop (fun i : Nat => i ≤ l.length ∧ ∀ j, j < i → p (l.getD j zeroSty) = false) 40 (fun i => mkS [(0, .sl (stys l)), (1, .fn g [.rp cs]), (7, .v (.int .i64 l.length)), (8, .v (.int .i64 i))] []) (fun i => l.length - i) 0 (by simp) ?_ ?_
  · (apply Ghost.mk [] []; (case hdead => rfl); (case hinj => rfl); (case hV => (simp only [go_sem, *]) <;> (repeat' (first | refine And.intro ?_ ?_ | exact View.int (by first | rfl | omega | (simp; done) | (rw [wrap_i64] <;> (try simp only [Int.natCast_add]) <;> omega) | (simp [*]; done)) | (refine View.fnF ?_; (simp [AV.flat]; done))))); (case hB => (simp only [go_sem, *]) <;> (repeat' (first | skip; done))))
  · intro i ⟨hi, hj⟩
    by_cases hlt : i < l.length
    · have hlt' : (i : Int) < l.length := by omega
      have hat := stys_at l i hlt
      have hz : ((l.getD i zeroSty).cells).length = 8 := rfl
      have hpi := hp (l.getD i zeroSty)
      repeat' (first
    | (apply Awp.sreg; (case hn => (simp only [List.length_cons, List.length_nil, Nat.reduceAdd] <;> rfl)))
    | (refine st_nil ?_)
    | (apply st_a; (case hc => rfl); (case he => (simp only [go_sem, *] <;> rfl)); (case hu => (simp only [updL_nil, updL_cons] <;> rfl)); (case hp => first | trivial | omega))
    | (apply st_c; (case hc => (simp only [go_sem, *] <;> rfl)); (case hl => (simp only [go_sem, *] <;> rfl)); (case hn => (simp only [go_sem, *] <;> rfl)); (case hp => first | exact hpi | (have hXz := hpi; simp only [go_sem, *] at hXz; exact hXz)))
    | (apply Awp.reg; (case hn => (simp only [List.length_cons, List.length_nil, Nat.reduceAdd] <;> rfl)))
    | (refine Awp.ret ?_; try simp only [go_sem, *])
    | (refine Awp.skip ?_; try simp only [go_sem, *])
    | refine Awp.block ?_
    | (apply Awp.cond; (case hc => (simp only [go_sem, *] <;> rfl)); all_goals (intro hg; (try simp only [Bool.not_true, Bool.not_false, reduceCtorEq] at hg)))
    | refine Awp.seq ?_)
      · exact Lower.int (idxF_in hlt hg hj).symm
      · refine ⟨i + 1, ⟨by omega, ltSucc hj hg⟩, by omega, ?_⟩
        (apply Ghost.mk [] []; (case hdead => rfl); (case hinj => rfl); (case hV => (simp only [go_sem, *]) <;> (repeat' (first | refine And.intro ?_ ?_ | exact View.int (by first | rfl | omega | (simp; done) | (rw [wrap_i64] <;> (try simp only [Int.natCast_add]) <;> omega) | (simp [*]; done)) | (refine View.fnF ?_; (simp [AV.flat]; done))))); (case hB => (simp only [go_sem, *]) <;> (repeat' (first | skip; done))))
    · have hlt' : ¬ (i : Int) < l.length := by omega
      repeat' (first
    | (apply Awp.sreg; (case hn => (simp only [List.length_cons, List.length_nil, Nat.reduceAdd] <;> rfl)))
    | (refine st_nil ?_)
    | (apply st_a; (case hc => rfl); (case he => (simp only [go_sem, *] <;> rfl)); (case hu => (simp only [updL_nil, updL_cons] <;> rfl)); (case hp => first | trivial))
    | (refine Awp.ret ?_; try simp only [go_sem, *])
    | (refine Awp.exit ?_; try simp only [go_sem, *])
    | (apply Awp.cond; (case hc => (simp only [go_sem, *] <;> rfl)); all_goals (intro hg; (try simp only [Bool.not_true, Bool.not_false, reduceCtorEq] at hg); (try have hg' := hg); (try simp only [decide_eq_true_eq, decide_eq_false_iff_not, Bool.and_eq_true, Bool.or_eq_false_iff, bne_iff_ne, bne_eq_false_iff_eq, beq_iff_eq, beq_eq_false_iff_ne, Int.not_lt, Int.not_le, Int.ofNat_lt, Int.ofNat_le, Int.natCast_inj] at hg')))
    | refine Awp.seq ?_)
      exact Lower.int (idxF_out (Nat.le_of_not_lt hlt) hj).symm
theorem containsK_ok (l : List Sty) (g : Nat) (cs : List AV) (p : Sty → Bool) (hl : l.length < 1000000) (hp : ∀ x : Sty, Pure Tryz.prog g [x.av, .rp cs] (.v (.bool (p x)))) :
    Pure Tryz.prog 28 [.sl (stys l), .fn g [.rp cs]] (.v (.bool (l.any p))) := by
  have h := indexK_ok l g cs p hl hp
  rw [← idxF_any]
  refine fn_pure Tryz.F28 (Nat.le_of_ble_eq_true rfl) ?_; unfold Tryz.ac28
  repeat' (first
    | (apply Awp.sreg; (case hn => (simp only [List.length_cons, List.length_nil, Nat.reduceAdd] <;> rfl)))
    | (refine st_nil ?_)
    | (apply st_a; (case hc => rfl); (case he => (simp only [go_sem, *] <;> rfl)); (case hu => (simp only [updL_nil, updL_cons] <;> rfl)); (case hp => first | trivial))
    | (apply st_c; (case hc => (simp only [go_sem, *] <;> rfl)); (case hl => (simp only [go_sem, *] <;> rfl)); (case hn => (simp only [go_sem, *] <;> rfl)); (case hp => first | exact h | (have hXz := h; simp only [go_sem, *] at hXz; exact hXz)))
    | (refine Awp.ret ?_; try simp only [go_sem, *]))
  all_goals repeat' (first | exact Lower.bool (by first | rfl | (simp only [true_and, Bool.true_and, Bool.false_and, Bool.and_true, Bool.and_false, Bool.true_or, Bool.false_or, reduceIte, Bool.false_eq_true, *]; done) | (simp only [true_and, reduceIte, Bool.false_eq_true, *] <;> rfl) | (simp [true_and]; done) | (simp_all [true_and]; done) | omega))
theorem hullC_ok (b x : Sty) : Pure Tryz.prog 29 [x.av, .rp b.cells] (.v (.bool (x.item.toList == b.item.toList))) := by
  refine fn_pure Tryz.F29 (Nat.le_of_ble_eq_true rfl) ?_; unfold Tryz.ac29
  repeat' (first
    | (apply Awp.sreg; (case hn => (simp only [List.length_cons, List.length_nil, Nat.reduceAdd] <;> rfl)))
    | (refine st_nil ?_)
    | (apply st_a; (case hc => rfl); (case he => (simp only [go_sem, *] <;> rfl)); (case hu => (simp only [updL_nil, updL_cons] <;> rfl)); (case hp => first | trivial))
    | (refine Awp.ret ?_; try simp only [go_sem, *]))
  all_goals repeat' (first | exact Lower.bool (by first | rfl | (simp only [true_and, Bool.true_and, Bool.false_and, Bool.and_true, Bool.and_false, Bool.true_or, Bool.false_or, reduceIte, Bool.false_eq_true, *]; done) | (simp only [true_and, reduceIte, Bool.false_eq_true, *] <;> rfl) | (simp [true_and]; done) | (simp_all [true_and]; done) | omega))
end Go.Proofs
end
section
set_option linter.unusedVariables false
set_option linter.unusedSimpArgs false
namespace Go.Proofs
open Go Go.Ab
set_option maxHeartbeats 4000000
set_option maxRecDepth 100000
set_option linter.unusedSimpArgs false
set_option linter.unusedVariables false
attribute [local irreducible] Awp aops aopsL Go.Ab.Pure PureOwn
theorem dock_dup {bs : List By} {l : List Sty} {i : Nat} (hC : checkE bs l = 0) (hi : i < l.length) (h : dupB l i = true) : dockE bs l = 7 := by
  have h2 : (List.range l.length).any (dupB l) = true := List.any_eq_true.2 ⟨i, List.mem_range.2 hi, h⟩
  unfold dockE
  rw [if_neg (by rw [hC]; simp), if_pos h2]
theorem dock_nodup {l : List Sty} (h : ∀ j, j < l.length → dupB l j = false) : (List.range l.length).any (dupB l) = false := by
  rw [List.any_eq_false]
  intro j hj
  rw [h j (List.mem_range.1 hj)]; simp
theorem dock_clash {bs : List By} {l : List Sty} {i k : Nat} (hC : checkE bs l = 0) (hd : (List.range l.length).any (dupB l) = false) (hi : i < l.length) (hk : k < l.length) (h : clashB (l.getD i zeroSty) (l.getD k zeroSty) = true) : dockE bs l = 14 := by
  unfold dockE
  rw [if_neg (by rw [hC]; simp), if_neg (by rw [hd]; simp), if_pos (any_in (d := zeroSty) hi (any_in (d := zeroSty) hk h))]
theorem dock_fine {bs : List By} {l : List Sty} (hC : checkE bs l = 0) (hd : (List.range l.length).any (dupB l) = false) (h : ∀ j, j < l.length → l.any (clashB (l.getD j zeroSty)) = false) : dockE bs l = 0 := by
  unfold dockE
  rw [if_neg (by rw [hC]; simp), if_neg (by rw [hd]; simp), if_neg (by rw [any_end (d := zeroSty) (Nat.le_refl _) h]; simp)]
theorem dock_first {bs : List By} {l : List Sty} (hC : ¬ checkE bs l = 0) : dockE bs l = checkE bs l := by
  unfold dockE
  rw [if_pos (by simpa using hC)]
theorem dcheck_ok (bs : List By) (l : List Sty) (hb : bs.length < 100000) (hl : l.length < 100000) : Pure Tryz.prog 12 [.sl (bys bs), .sl (stys l)] (.v (.int .i64 (dockE bs l))) := by
  have c0 := dstays_ok l (by omega)
  have c1 := check_ok bs l hb hl
  by_cases hC : checkE bs l = 0
  case neg =>
    rw [dock_first hC]
    have hC' : (checkE bs l != 0) = true := by simpa using hC
    generalize checkE bs l = e at *
    refine fn_pure Tryz.F12 (Nat.le_of_ble_eq_true rfl) ?_; unfold Tryz.ac12
    repeat' (first
    | (apply Awp.sreg; (case hn => (simp only [List.length_cons, List.length_nil, Nat.reduceAdd] <;> rfl)))
    | (refine st_nil ?_)
    | (apply st_a; (case hc => rfl); (case he => (simp only [go_sem, *] <;> rfl)); (case hu => (simp only [updL_nil, updL_cons] <;> rfl)); (case hp => first | trivial))
    | (apply st_co; (case hc => (simp only [go_sem, *] <;> rfl)); (case hl => (simp only [go_sem, *] <;> rfl)); (case hn => (simp only [go_sem, *] <;> rfl)); (case hp => first | exact c0 | (have hXz := c0; simp only [go_sem, *] at hXz; exact hXz)))
    | (apply st_cd; (case hc => (simp only [go_sem, *] <;> rfl)); (case hl => (simp only [go_sem, *] <;> rfl)); (case hn => (simp only [go_sem, *] <;> rfl)); (case hp => first | exact c1 | (have hXz := c1; simp only [go_sem, *] at hXz; exact hXz)); (case hd => first | exact .v _ | exact .any | exact .nils | (repeat' (first | exact Dry.v _ | exact Dry.any | exact Dry.nils | exact Dry.slE | refine Dry.agg ?_ | refine Dry.tup ?_ | (refine List.forall_mem_cons.2 (And.intro ?_ ?_)) | (intro cQ hQ; cases hQ; done)))); (case hm => first | decide | (simp; done)))
    | (refine Awp.ret ?_; try simp only [go_sem, *])
    | (apply Awp.cond; (case hc => (simp only [go_sem, *] <;> rfl)); all_goals (intro hg; (try simp only [Bool.not_true, Bool.not_false, reduceCtorEq] at hg)))
    | refine Awp.seq ?_)
    all_goals repeat' (first | exact Lower.int (by first | rfl | (simp only [true_and, Bool.true_and, Bool.false_and, Bool.and_true, Bool.and_false, Bool.true_or, Bool.false_or, reduceIte, Bool.false_eq_true, *]; done) | (simp only [true_and, reduceIte, Bool.false_eq_true, *] <;> rfl) | (simp [true_and]; done) | (simp_all [true_and]; done) | omega))
  rw [hC] at c1
  refine fn_pure Tryz.F12 (Nat.le_of_ble_eq_true rfl) ?_; unfold Tryz.ac12
  repeat' (first
    | (apply Awp.sreg; (case hn => (simp only [List.length_cons, List.length_nil, Nat.reduceAdd] <;> rfl)))
    | (refine st_nil ?_)
    | (apply st_a; (case hc => rfl); (case he => (simp only [go_sem, *] <;> rfl)); (case hu => (simp only [updL_nil, updL_cons] <;> rfl)); (case hp => first | trivial))
    | (apply st_co; (case hc => (simp only [go_sem, *] <;> rfl)); (case hl => (simp only [go_sem, *] <;> rfl)); (case hn => (simp only [go_sem, *] <;> rfl)); (case hp => first | exact c0 | (have hXz := c0; simp only [go_sem, *] at hXz; exact hXz)))
    | (apply st_cd; (case hc => (simp only [go_sem, *] <;> rfl)); (case hl => (simp only [go_sem, *] <;> rfl)); (case hn => (simp only [go_sem, *] <;> rfl)); (case hp => first | exact c1 | (have hXz := c1; simp only [go_sem, *] at hXz; exact hXz)); (case hd => first | exact .v _ | exact .any | exact .nils | (repeat' (first | exact Dry.v _ | exact Dry.any | exact Dry.nils | exact Dry.slE | refine Dry.agg ?_ | refine Dry.tup ?_ | (refine List.forall_mem_cons.2 (And.intro ?_ ?_)) | (intro cQ hQ; cases hQ; done)))); (case hm => first | decide | (simp; done)))
    | (refine Awp.skip ?_; try simp only [go_sem, *])
    | refine Awp.block ?_
    | (apply Awp.cond; (case hc => (simp only [go_sem, *] <;> rfl)); all_goals (intro hg; (try simp only [Bool.not_true, Bool.not_false, reduceCtorEq] at hg)))
    | refine Awp.seq ?_)
  clear c0 c1
  refine Awp.loop (fun i : Nat => i ≤ l.length ∧ ∀ j, j < i → dupB l j = false) 60 (fun i => mkS [(1, .sl (stys l)), (19, .sl (stys l)), (20, .v (.int .i64 l.length)), (21, .v (.int .i64 i))] []) (fun i => l.length - i) 0 (by simp) ?_ ?_
  · (apply Ghost.mk [] []; (case hdead => rfl); (case hinj => rfl); (case hV => (simp only [go_sem, *]) <;> (repeat' (first | exact View.int (by first | rfl | omega | (simp; done) | (rw [wrap_i64] <;> (try simp only [Int.natCast_add]) <;> omega) | (simp [*]; done))))); (case hB => (simp only [go_sem, *]) <;> (repeat' (first | skip; done))))
  · intro i ⟨hi, hj⟩
    by_cases hlt : i < l.length
    · have hlt' : (i : Int) < l.length := by omega
      have hat := stys_at l i hlt
      have hz : ((l.getD i zeroSty).cells).length = 8 := rfl
      have h3 := stys_one l
      have ht := stys_take l i
      have hle : (i : Int) ≤ l.length := by omega
      have h00 : (0 : Int) ≤ i := by omega
      have c3 := containsK_ok (l.take i) 29 (l.getD i zeroSty).cells (fun x => x.item.toList == (l.getD i zeroSty).item.toList) (by simp; omega) (hullC_ok _)
      have hd : ((l.take i).any fun x => x.item.toList == (l.getD i zeroSty).item.toList) = dupB l i := rfl
      rw [hd] at c3
      clear hd
      cases hdd : dupB l i
      · rw [hdd] at c3
        repeat' (first
    | (apply Awp.sreg; (case hn => (simp only [List.length_cons, List.length_nil, Nat.reduceAdd] <;> rfl)))
    | (refine st_nil ?_)
    | (apply st_a; (case hc => rfl); (case he => (simp only [go_sem, *] <;> rfl)); (case hu => (simp only [updL_nil, updL_cons] <;> rfl)); (case hp => first | trivial))
    | (apply st_cd; (case hc => (simp only [go_sem, *] <;> rfl)); (case hl => (simp only [go_sem, *] <;> rfl)); (case hn => (simp only [go_sem, *] <;> rfl)); (case hp => first | exact c3 | (have hXz := c3; simp only [go_sem, *] at hXz; exact hXz)); (case hd => first | exact .v _ | exact .any | exact .nils | (repeat' (first | exact Dry.v _ | exact Dry.any | exact Dry.nils | exact Dry.slE | refine Dry.agg ?_ | refine Dry.tup ?_ | (refine List.forall_mem_cons.2 (And.intro ?_ ?_)) | (intro cQ hQ; cases hQ; done)))); (case hm => first | decide | (simp; done)))
    | (apply Awp.reg; (case hn => (simp only [List.length_cons, List.length_nil, Nat.reduceAdd] <;> rfl)))
    | (refine Awp.skip ?_; try simp only [go_sem, *])
    | refine Awp.block ?_
    | (apply Awp.cond; (case hc => (simp only [go_sem, *] <;> rfl)); all_goals (intro hg; (try simp only [Bool.not_true, Bool.not_false, reduceCtorEq] at hg)))
    | refine Awp.seq ?_)
        refine ⟨i + 1, ⟨by omega, ltSucc hj hdd⟩, by omega, ?_⟩
        (apply Ghost.mk [] []; (case hdead => rfl); (case hinj => rfl); (case hV => (simp only [go_sem, *]) <;> (repeat' (first | exact View.int (by first | rfl | omega | (simp; done) | (rw [wrap_i64] <;> (try simp only [Int.natCast_add]) <;> omega) | (simp [*]; done))))); (case hB => (simp only [go_sem, *]) <;> (repeat' (first | skip; done))))
      · rw [hdd] at c3
        repeat' (first
    | (apply Awp.sreg; (case hn => (simp only [List.length_cons, List.length_nil, Nat.reduceAdd] <;> rfl)))
    | (refine st_nil ?_)
    | (apply st_a; (case hc => rfl); (case he => (simp only [go_sem, *] <;> rfl)); (case hu => (simp only [updL_nil, updL_cons] <;> rfl)); (case hp => first | trivial))
    | (apply st_cd; (case hc => (simp only [go_sem, *] <;> rfl)); (case hl => (simp only [go_sem, *] <;> rfl)); (case hn => (simp only [go_sem, *] <;> rfl)); (case hp => first | exact c3 | (have hXz := c3; simp only [go_sem, *] at hXz; exact hXz)); (case hd => first | exact .v _ | exact .any | exact .nils | (repeat' (first | exact Dry.v _ | exact Dry.any | exact Dry.nils | exact Dry.slE | refine Dry.agg ?_ | refine Dry.tup ?_ | (refine List.forall_mem_cons.2 (And.intro ?_ ?_)) | (intro cQ hQ; cases hQ; done)))); (case hm => first | decide | (simp; done)))
    | (refine Awp.ret ?_; try simp only [go_sem, *])
    | (refine Awp.skip ?_; try simp only [go_sem, *])
    | refine Awp.block ?_
    | (apply Awp.cond; (case hc => (simp only [go_sem, *] <;> rfl)); all_goals (intro hg; (try simp only [Bool.not_true, Bool.not_false, reduceCtorEq] at hg)))
    | refine Awp.seq ?_)
        exact Lower.int (dock_dup hC hlt hdd).symm
    · have hlt' : ¬ (i : Int) < l.length := by omega
      have hd := dock_nodup fun j hjl => hj j (by omega)
      clear hj
      repeat' (first
    | (apply Awp.sreg; (case hn => (simp only [List.length_cons, List.length_nil, Nat.reduceAdd] <;> rfl)))
    | (refine st_nil ?_)
    | (apply st_a; (case hc => rfl); (case he => (simp only [go_sem, *] <;> rfl)); (case hu => (simp only [updL_nil, updL_cons] <;> rfl)); (case hp => first | trivial))
    | (refine Awp.exit ?_; try simp only [go_sem, *])
    | refine Awp.block ?_
    | (apply Awp.cond; (case hc => (simp only [go_sem, *] <;> rfl)); all_goals (intro hg; (try simp only [Bool.not_true, Bool.not_false, reduceCtorEq] at hg)))
    | refine Awp.seq ?_)
      clear hlt hlt' hi
      refine Awp.loop (fun i : Nat => i ≤ l.length ∧ ∀ j, j < i → l.any (clashB (l.getD j zeroSty)) = false) 100 (fun i => mkS [(1, .sl (stys l)), (32, .sl (stys l)), (33, .v (.int .i64 l.length)), (34, .v (.int .i64 i))] []) (fun i => l.length - i) 0 (by simp) ?_ ?_
      · (apply Ghost.mk [] []; (case hdead => rfl); (case hinj => rfl); (case hV => (simp only [go_sem, *]) <;> (repeat' (first | exact View.int (by first | rfl | omega | (simp; done) | (rw [wrap_i64] <;> (try simp only [Int.natCast_add]) <;> omega) | (simp [*]; done))))); (case hB => (simp only [go_sem, *]) <;> (repeat' (first | skip; done))))
      · intro i ⟨hi, hj⟩
        by_cases hlt : i < l.length
        · have hlt' : (i : Int) < l.length := by omega
          have hat := stys_at l i hlt
          have hz : ((l.getD i zeroSty).cells).length = 8 := rfl
          repeat' (first
    | (apply Awp.sreg; (case hn => (simp only [List.length_cons, List.length_nil, Nat.reduceAdd] <;> rfl)))
    | (refine st_nil ?_)
    | (apply st_a; (case hc => rfl); (case he => (simp only [go_sem, *] <;> rfl)); (case hu => (simp only [updL_nil, updL_cons] <;> rfl)); (case hp => first | trivial | omega))
    | (refine Awp.skip ?_; try simp only [go_sem, *])
    | refine Awp.block ?_
    | (apply Awp.cond; (case hc => (simp only [go_sem, *] <;> rfl)); all_goals (intro hg; (try simp only [Bool.not_true, Bool.not_false, reduceCtorEq] at hg)))
    | refine Awp.seq ?_)
          refine Awp.loop (fun k : Nat => k ≤ l.length ∧ ∀ j, j < k → clashB (l.getD i zeroSty) (l.getD j zeroSty) = false) 140 (fun k => mkS [(1, .sl (stys l)), (9, .bp 0 0), (32, .sl (stys l)), (33, .v (.int .i64 l.length)), (34, .v (.int .i64 i)), (38, .sl (stys l)), (39, .v (.int .i64 l.length)), (40, .v (.int .i64 k))] [(0, .box (l.getD i zeroSty).cells)]) (fun k => l.length - k) 0 (by simp) ?_ ?_
          · (apply Ghost.mk [(0, 103)] []; (case hdead => rfl); (case hinj => rfl); (case hV => (simp only [go_sem, *]) <;> (repeat' (first | refine And.intro ?_ ?_ | exact View.int (by first | rfl | omega | (simp; done) | (rw [wrap_i64] <;> (try simp only [Int.natCast_add]) <;> omega) | (simp [*]; done)) | exact .bp rfl (by decide)))); (case hB => (simp only [go_sem, *]) <;> (repeat' (first | exact ⟨_, rfl, BView.boxF rfl⟩))))
          · intro k ⟨hk, hjk⟩
            by_cases hlk : k < l.length
            · have hlk' : (k : Int) < l.length := by omega
              have hat2 := stys_at l k hlk
              have hz2 : ((l.getD k zeroSty).cells).length = 8 := rfl
              cases hcl : clashB (l.getD i zeroSty) (l.getD k zeroSty)
              · have hcl' := hcl
                unfold clashB at hcl'
                repeat' (first
    | (apply Awp.sreg; (case hn => (simp only [List.length_cons, List.length_nil, Nat.reduceAdd] <;> rfl)))
    | (refine st_nil ?_)
    | (apply st_a; (case hc => rfl); (case he => (simp only [go_sem, *] <;> rfl)); (case hu => (simp only [updL_nil, updL_cons] <;> rfl)); (case hp => first | trivial | omega))
    | (apply st_m; (case hc => rfl); (case hg => (simp only [go_sem, *] <;> rfl)); (case he => (intro hQz; (try simp only [wantB_t, wantB_f, Bool.and_eq_true, Bool.not_eq_true', Bool.not_true, Bool.not_false, and_true, true_and] at hQz); simp only [go_sem, *] <;> rfl)); (case hp => (intro hQz; (try simp only [wantB_t, wantB_f, Bool.and_eq_true, Bool.not_eq_true', Bool.or_eq_false_iff, decide_eq_true_eq, decide_eq_false_iff_not, beq_iff_eq, beq_eq_false_iff_ne, bne_iff_ne, bne_eq_false_iff_eq, Int.not_lt, Int.not_le, Int.ofNat_lt, Int.ofNat_le] at hQz); first | trivial)))
    | (apply Awp.reg; (case hn => (simp only [List.length_cons, List.length_nil, Nat.reduceAdd] <;> rfl)))
    | (refine Awp.skip ?_; try simp only [go_sem, *])
    | refine Awp.block ?_
    | (apply Awp.cond; (case hc => (simp only [go_sem, *] <;> rfl)); all_goals (intro hg; (try simp only [Bool.not_true, Bool.not_false, reduceCtorEq] at hg)))
    | refine Awp.seq ?_)
                refine ⟨k + 1, ⟨by omega, ltSucc hjk hcl⟩, by omega, ?_⟩
                (apply Ghost.mk [] []; (case hdead => rfl); (case hinj => rfl); (case hV => (simp only [go_sem, *]) <;> (repeat' (first | refine And.intro ?_ ?_ | exact View.int (by first | rfl | omega | (simp; done) | (rw [wrap_i64] <;> (try simp only [Int.natCast_add]) <;> omega) | (simp [*]; done)) | exact .bp rfl (by decide)))); (case hB => (simp only [go_sem, *]) <;> (repeat' (first | exact ⟨_, rfl, BView.boxF rfl⟩))))
              · have hcl' := hcl
                unfold clashB at hcl'
                have hdc := dock_clash hC hd hlt hlk hcl
                clear hcl hjk hj hC hd
                repeat' (first
    | (apply Awp.sreg; (case hn => (simp only [List.length_cons, List.length_nil, Nat.reduceAdd] <;> rfl)))
    | (refine st_nil ?_)
    | (apply st_a; (case hc => rfl); (case he => (simp only [go_sem, *] <;> rfl)); (case hu => (simp only [updL_nil, updL_cons] <;> rfl)); (case hp => first | trivial | omega))
    | (apply st_m; (case hc => rfl); (case hg => (simp only [go_sem, *] <;> rfl)); (case he => (intro hQz; (try simp only [wantB_t, wantB_f, Bool.and_eq_true, Bool.not_eq_true', Bool.not_true, Bool.not_false, and_true, true_and] at hQz); simp only [go_sem, *] <;> rfl)); (case hp => (intro hQz; (try simp only [wantB_t, wantB_f, Bool.and_eq_true, Bool.not_eq_true', Bool.or_eq_false_iff, decide_eq_true_eq, decide_eq_false_iff_not, beq_iff_eq, beq_eq_false_iff_ne, bne_iff_ne, bne_eq_false_iff_eq, Int.not_lt, Int.not_le, Int.ofNat_lt, Int.ofNat_le] at hQz); first | trivial)))
    | (refine Awp.ret ?_; try simp only [go_sem, *])
    | (refine Awp.skip ?_; try simp only [go_sem, *])
    | refine Awp.block ?_
    | (apply Awp.cond; (case hc => (simp only [go_sem, *] <;> rfl)); all_goals (intro hg; (try simp only [Bool.not_true, Bool.not_false, reduceCtorEq] at hg)))
    | refine Awp.seq ?_)
                all_goals repeat' (first | exact Lower.int (by first | rfl | (simp only [true_and, Bool.true_and, Bool.false_and, Bool.and_true, Bool.and_false, Bool.true_or, Bool.false_or, reduceIte, Bool.false_eq_true, *]; done) | (simp only [true_and, reduceIte, Bool.false_eq_true, *] <;> rfl) | (simp [true_and]; done) | (simp_all [true_and]; done) | omega))
            · have hlk' : ¬ (k : Int) < l.length := by omega
              have hn := any_end (d := zeroSty) (Nat.le_of_not_lt hlk) hjk
              clear hjk
              repeat' (first
    | (apply Awp.sreg; (case hn => (simp only [List.length_cons, List.length_nil, Nat.reduceAdd] <;> rfl)))
    | (refine st_nil ?_)
    | (apply st_a; (case hc => rfl); (case he => (simp only [go_sem, *] <;> rfl)); (case hu => (simp only [updL_nil, updL_cons] <;> rfl)); (case hp => first | trivial))
    | (apply Awp.reg; (case hn => (simp only [List.length_cons, List.length_nil, Nat.reduceAdd] <;> rfl)))
    | (refine Awp.exit ?_; try simp only [go_sem, *])
    | (apply Awp.cond; (case hc => (simp only [go_sem, *] <;> rfl)); all_goals (intro hg; (try simp only [Bool.not_true, Bool.not_false, reduceCtorEq] at hg)))
    | refine Awp.seq ?_)
              refine ⟨i + 1, ⟨by omega, ltSucc hj hn⟩, by omega, ?_⟩
              (apply Ghost.mk [] []; (case hdead => rfl); (case hinj => rfl); (case hV => (simp only [go_sem, *]) <;> (repeat' (first | exact View.int (by first | rfl | omega | (simp; done) | (rw [wrap_i64] <;> (try simp only [Int.natCast_add]) <;> omega) | (simp [*]; done))))); (case hB => (simp only [go_sem, *]) <;> (repeat' (first | skip; done))))
        · have hlt' : ¬ (i : Int) < l.length := by omega
          have hf := dock_fine hC hd fun j hjl => hj j (by omega)
          clear hj
          repeat' (first
    | (apply Awp.sreg; (case hn => (simp only [List.length_cons, List.length_nil, Nat.reduceAdd] <;> rfl)))
    | (refine st_nil ?_)
    | (apply st_a; (case hc => rfl); (case he => (simp only [go_sem, *] <;> rfl)); (case hu => (simp only [updL_nil, updL_cons] <;> rfl)); (case hp => first | trivial))
    | (refine Awp.ret ?_; try simp only [go_sem, *])
    | (refine Awp.exit ?_; try simp only [go_sem, *])
    | (apply Awp.cond; (case hc => (simp only [go_sem, *] <;> rfl)); all_goals (intro hg; (try simp only [Bool.not_true, Bool.not_false, reduceCtorEq] at hg)))
    | refine Awp.seq ?_)
          all_goals repeat' (first | exact Lower.int (by first | rfl | (simp only [true_and, Bool.true_and, Bool.false_and, Bool.and_true, Bool.and_false, Bool.true_or, Bool.false_or, reduceIte, Bool.false_eq_true, *]; done) | (simp only [true_and, reduceIte, Bool.false_eq_true, *] <;> rfl) | (simp [true_and]; done) | (simp_all [true_and]; done) | omega))
end Go.Proofs
end
