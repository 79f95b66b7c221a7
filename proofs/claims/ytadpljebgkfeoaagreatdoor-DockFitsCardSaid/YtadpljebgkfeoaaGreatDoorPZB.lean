import Derived.Test.YtadpljebgkfeoaaGreatDoorPZA
import Derived.Tactics
import Derived.ProofKit
import Derived.OpenShut
import Derived.Shelf.SlSortCmp.NoneTotal
import Derived.Shelf.Spec.SlicesGrow
import Derived.Shelf.SlicesE.Clone
import Derived.Lib.SlicesCompact
section
set_option linter.unusedVariables false
set_option linter.unusedSimpArgs false
namespace Go.Ab
open Go.RowKit

instance : Inhabited Ent := ⟨⟨[], [], none, []⟩⟩

/-- For each operation those that stand before it, whatever the order. -/
def befs : List (List Nat) → List (List Nat) → List (List Nat)
  | [], acc => acc
  | d :: r, acc => befs r (acc ++ [d ++ d.flatMap fun j => acc.getD j []])

def freeE (a b : Ent) : Bool :=
  (match a.wt with | some d => !b.rt.contains d && b.wt != some d | none => true) &&
  (match b.wt with | some d => !a.rt.contains d | none => true) &&
  a.wh.all (fun n => !b.rh.contains n && !b.wh.contains n) && b.wh.all (fun n => !a.rh.contains n)

def depsLow : List (List Nat) → Nat → Bool
  | [], _ => true
  | d :: r, i => d.all (fun j => decide (j < i)) && depsLow r (i + 1)

def drawOk (deps : List (List Nat)) (es : List Ent) : Bool :=
  depsLow deps 0 &&
  (List.range es.length).all fun i => (List.range i).all fun j => ((befs deps []).getD i []).contains j || freeE (es.getD j default) (es.getD i default)

theorem depsLow_spec : ∀ {deps : List (List Nat)} {i : Nat}, depsLow deps i = true → ∀ (k : Nat) (d : List Nat), deps[k]? = some d → ∀ j ∈ d, j < i + k
  | [], i, _, k, d, hk, j, hj => by simp at hk
  | x :: r, i, h, k, d, hk, j, hj => by
    simp only [depsLow, Bool.and_eq_true, List.all_eq_true, decide_eq_true_eq] at h
    cases k with
    | zero => simp at hk; subst hk; exact h.1 j hj
    | succ k =>
      simp at hk
      have := depsLow_spec h.2 k d hk j hj
      omega

/-- What is done is closed under what is asked before. -/
theorem befs_closed {deps : List (List Nat)} (D : Nat → Prop) (hlow : ∀ (k : Nat) (d : List Nat), deps[k]? = some d → ∀ j ∈ d, j < k) (hD : ∀ (k : Nat) (d : List Nat), deps[k]? = some d → D k → ∀ j ∈ d, D j) :
    ∀ (i : Nat), D i → ∀ j ∈ (befs deps []).getD i [], D j := by
  have key : ∀ (r acc : List (List Nat)) (k : Nat), acc.length = k → (∀ j, r[j]? = deps[k + j]?) → (∀ i, i < k → D i → ∀ j ∈ acc.getD i [], D j) → ∀ i, D i → ∀ j ∈ (befs r acc).getD i [], D j := by
    intro r
    induction r with
    | nil =>
      intro acc k hk _ ha i hi j hj
      by_cases hlt : i < k
      · exact ha i hlt hi j hj
      · rw [befs, List.getD_eq_getElem?_getD, List.getElem?_eq_none (by omega)] at hj
        simp at hj
    | cons d r ih =>
      intro acc k hk hr ha
      have hd : deps[k]? = some d := by simpa using (hr 0).symm
      simp only [befs]
      refine ih _ (k + 1) (by simp [hk]) (fun j => by have := hr (j + 1); simpa [Nat.add_assoc, Nat.add_comm 1 j] using this) (fun i hi hDi j hj => ?_)
      by_cases hlt : i < k
      · have e : (acc ++ [d ++ d.flatMap fun j => acc.getD j []]).getD i [] = acc.getD i [] := by
          simp only [List.getD_eq_getElem?_getD]; rw [List.getElem?_append_left (by omega)]
        rw [e] at hj
        exact ha i hlt hDi j hj
      · have : i = k := by omega
        subst this
        have e : (acc ++ [d ++ d.flatMap fun j => acc.getD j []]).getD i [] = d ++ d.flatMap fun j => acc.getD j [] := by
          simp only [List.getD_eq_getElem?_getD]; rw [List.getElem?_append_right (by omega)]; simp [hk]
        rw [e] at hj
        rcases List.mem_append.1 hj with hj | hj
        · exact hD i d hd hDi j hj
        · obtain ⟨q, hq, hj⟩ := List.mem_flatMap.1 hj
          exact ha q (hlow i d hd q hq) (hD i d hd hDi q hq) j hj
  exact fun i => key deps [] 0 rfl (by simp) (fun i hi => by omega) i

theorem befs_low {deps : List (List Nat)} (hlow : ∀ (k : Nat) (d : List Nat), deps[k]? = some d → ∀ j ∈ d, j < k) : ∀ (q : Nat), ∀ j ∈ (befs deps []).getD q [], j < q := by
  have key : ∀ (r acc : List (List Nat)) (k : Nat), acc.length = k → (∀ j, r[j]? = deps[k + j]?) → (∀ p, p < k → ∀ j ∈ acc.getD p [], j < p) → ∀ p, ∀ j ∈ (befs r acc).getD p [], j < p := by
    intro r
    induction r with
    | nil =>
      intro acc k hk _ ha p j hj
      by_cases hlt : p < k
      · exact ha p hlt j hj
      · rw [befs, List.getD_eq_getElem?_getD, List.getElem?_eq_none (by omega)] at hj
        simp at hj
    | cons d r ihr =>
      intro acc k hk hr' ha
      have hd : deps[k]? = some d := by simpa using (hr' 0).symm
      simp only [befs]
      refine ihr _ (k + 1) (by simp [hk]) (fun j => by have := hr' (j + 1); simpa [Nat.add_assoc, Nat.add_comm 1 j] using this) (fun p hp j hj => ?_)
      by_cases hlt : p < k
      · have e : (acc ++ [d ++ d.flatMap fun j => acc.getD j []]).getD p [] = acc.getD p [] := by
          simp only [List.getD_eq_getElem?_getD]; rw [List.getElem?_append_left (by omega)]
        rw [e] at hj
        exact ha p hlt j hj
      · have : p = k := by omega
        subst this
        have e : (acc ++ [d ++ d.flatMap fun j => acc.getD j []]).getD p [] = d ++ d.flatMap fun j => acc.getD j [] := by
          simp only [List.getD_eq_getElem?_getD]; rw [List.getElem?_append_right (by omega)]; simp [hk]
        rw [e] at hj
        rcases List.mem_append.1 hj with hj | hj
        · exact hlow p d hd j hj
        · obtain ⟨y, hy, hj⟩ := List.mem_flatMap.1 hj
          have h1 := hlow p d hd y hy
          have h2 := ha y h1 j hj
          omega
  exact key deps [] 0 rfl (by simp) (fun p hp => by omega)

/-- The state in which those of D have been carried out, in the order of the text. -/
def stD (D : Nat → Bool) : List (Option Nat × AV × Upd) → Nat → AState → AState
  | [], _, S => S
  | (d, v, u) :: r, k, S => stD D r (k + 1) (if D k then app1 S d v u else S)

theorem putT_other {f : Nat → AV} {dst : Option Nat} {v : AV} {t : Nat} (h : dst ≠ some t) : putT f dst v t = f t := by
  cases dst with
  | none => rfl
  | some d => simp only [putT, upd]; rw [if_neg (fun e => h (by rw [e]))]

theorem stD_congr (D D' : Nat → Bool) (t : Nat) : ∀ (L : List (Option Nat × AV × Upd)) (k : Nat) (S S' : AState), S.t t = S'.t t → (∀ j x, L[j]? = some x → x.1 = some t → D (k + j) = D' (k + j)) → (stD D L k S).t t = (stD D' L k S').t t
  | [], k, S, S', h, _ => h
  | (d, v, u) :: r, k, S, S', h, hD => by
    simp only [stD]
    refine stD_congr D D' t r (k + 1) _ _ ?_ (fun j x hx hd => by have := hD (j + 1) x (by simpa using hx) hd; rwa [show k + 1 + j = k + (j + 1) by omega])
    by_cases hdt : d = some t
    · have := hD 0 (d, v, u) (by simp) hdt
      simp only [Nat.add_zero] at this
      rw [this]
      cases D' k
      · simpa using h
      · simp [app1, hdt, putT, upd]
    · cases D k <;> cases D' k <;> simp [app1, putT_other hdt, h]

theorem stD_congrH (D D' : Nat → Bool) (n : Nat) : ∀ (L : List (Option Nat × AV × Upd)) (k : Nat) (S S' : AState), S.h n = S'.h n → (∀ j x, L[j]? = some x → n ∈ x.2.2.map (·.1) → D (k + j) = D' (k + j)) → (stD D L k S).h n = (stD D' L k S').h n
  | [], k, S, S', h, _ => h
  | (d, v, u) :: r, k, S, S', h, hD => by
    simp only [stD]
    refine stD_congrH D D' n r (k + 1) _ _ ?_ (fun j x hx hd => by have := hD (j + 1) x (by simpa using hx) hd; rwa [show k + 1 + j = k + (j + 1) by omega])
    by_cases hdt : n ∈ u.map (·.1)
    · have := hD 0 (d, v, u) (by simp) hdt
      simp only [Nat.add_zero] at this
      rw [this]
      cases D' k
      · simpa using h
      · simp only [if_true, app1]; exact updL_in u _ _ hdt
    · cases D k <;> cases D' k <;> simp [app1, updL_out u _ hdt, h]

/-- The last of those that wrote a place. -/
theorem stD_last (D : Nat → Bool) (t : Nat) {v : AV} {u : Upd} : ∀ (L : List (Option Nat × AV × Upd)) (k i : Nat) (S : AState), L[i]? = some (some t, v, u) → D (k + i) = true → (∀ j x, i < j → L[j]? = some x → x.1 = some t → D (k + j) = false) → (stD D L k S).t t = v
  | [], k, i, S, h, _, _ => by simp at h
  | (d, v', u') :: r, k, i, S, h, hi, hD => by
    simp only [stD]
    cases i with
    | zero =>
      simp at h
      obtain ⟨rfl, rfl, rfl⟩ := h
      simp only [Nat.add_zero] at hi
      rw [hi]
      have := stD_congr D (fun _ => false) t r (k + 1) (if true then app1 S (some t) v' u' else S) (app1 S (some t) v' u') rfl (fun j x hx hd => by have := hD (j + 1) x (by omega) (by simpa using hx) hd; rwa [show k + 1 + j = k + (j + 1) by omega])
      rw [this]
      have none : ∀ (L : List (Option Nat × AV × Upd)) (k : Nat) (S : AState), stD (fun _ => false) L k S = S := by
        intro L; induction L with
        | nil => intro k S; rfl
        | cons x r ih => intro k S; obtain ⟨d, v, u⟩ := x; simp only [stD]; exact ih _ _
      rw [none]
      simp [app1, putT, upd]
    | succ i =>
      simp at h
      exact stD_last D t r (k + 1) i _ h (by rw [← hi]; congr 1; omega) (fun j x hj hx hd => by have := hD (j + 1) x (by omega) (by simpa using hx) hd; rwa [show k + 1 + j = k + (j + 1) by omega])

theorem stD_lastH (D : Nat → Bool) (n : Nat) (g : Nat → Option Blk) {d : Option Nat} {v : AV} {u : Upd} (hn : n ∈ u.map (·.1)) : ∀ (L : List (Option Nat × AV × Upd)) (k i : Nat) (S : AState), L[i]? = some (d, v, u) → D (k + i) = true → (∀ j x, i < j → L[j]? = some x → n ∈ x.2.2.map (·.1) → D (k + j) = false) → (stD D L k S).h n = updL g u n
  | [], k, i, S, h, _, _ => by simp at h
  | (d', v', u') :: r, k, i, S, h, hi, hD => by
    simp only [stD]
    cases i with
    | zero =>
      simp at h
      obtain ⟨rfl, rfl, rfl⟩ := h
      simp only [Nat.add_zero] at hi
      rw [hi]
      have := stD_congrH D (fun _ => false) n r (k + 1) (if true then app1 S d' v' u' else S) (app1 S d' v' u') rfl (fun j x hx hd => by have := hD (j + 1) x (by omega) (by simpa using hx) hd; rwa [show k + 1 + j = k + (j + 1) by omega])
      rw [this]
      have none : ∀ (L : List (Option Nat × AV × Upd)) (k : Nat) (S : AState), stD (fun _ => false) L k S = S := by
        intro L; induction L with
        | nil => intro k S; rfl
        | cons x r ih => intro k S; obtain ⟨d, v, u⟩ := x; simp only [stD]; exact ih _ _
      rw [none]
      exact updL_in u' _ _ hn
    | succ i =>
      simp at h
      exact stD_lastH D n g hn r (k + 1) i _ h (by rw [← hi]; congr 1; omega) (fun j x hj hx hd => by have := hD (j + 1) x (by omega) (by simpa using hx) hd; rwa [show k + 1 + j = k + (j + 1) by omega])

/-- One more. -/
theorem stD_insert (D : Nat → Bool) (L : List (Option Nat × AV × Upd)) (S : AState) {i : Nat} {d : Option Nat} {v : AV} {u : Upd} (hi : L[i]? = some (d, v, u))
    (ht : ∀ j x, i < j → L[j]? = some x → D j = true → ∀ t, d = some t → x.1 ≠ some t) (hh : ∀ j x, i < j → L[j]? = some x → D j = true → ∀ n ∈ u.map (·.1), n ∉ x.2.2.map (·.1)) :
    stD (fun j => D j || j == i) L 0 S = app1 (stD D L 0 S) d v u := by
  have h1 : ∀ t, (stD (fun j => D j || j == i) L 0 S).t t = putT (stD D L 0 S).t d v t := by
    intro t
    by_cases hdt : d = some t
    · subst hdt
      rw [stD_last (fun j => D j || j == i) t L 0 i S hi (by simp) (fun j x hj hx hxt => ?_)]
      · simp [putT, upd]
      · have hji : j ≠ i := by omega
        cases hDj : D j with
        | false => simp [hDj, hji]
        | true => exact absurd hxt (ht j x hj hx hDj t rfl)
    · rw [putT_other hdt]
      refine stD_congr _ _ t L 0 S S rfl (fun j x hx hxt => ?_)
      have hji : j ≠ i := fun e => by
        subst e
        rw [hi] at hx
        simp at hx
        subst hx
        exact hdt hxt
      simp [hji]
  have h2 : ∀ n, (stD (fun j => D j || j == i) L 0 S).h n = updL (stD D L 0 S).h u n := by
    intro n
    by_cases hn : n ∈ u.map (·.1)
    · refine stD_lastH (fun j => D j || j == i) n _ hn L 0 i S hi (by simp) (fun j x hj hx hxt => ?_)
      have hji : j ≠ i := by omega
      cases hDj : D j with
      | false => simp [hDj, hji]
      | true => exact absurd hxt (hh j x hj hx hDj n hn)
    · rw [updL_out u _ hn]
      refine stD_congrH _ _ n L 0 S S rfl (fun j x hx hxt => ?_)
      have hji : j ≠ i := fun e => by
        subst e
        rw [hi] at hx
        simp at hx
        subst hx
        exact hn hxt
      simp [hji]
  have e1 : (stD (fun j => D j || j == i) L 0 S).t = putT (stD D L 0 S).t d v := funext h1
  have e2 : (stD (fun j => D j || j == i) L 0 S).h = updL (stD D L 0 S).h u := funext h2
  cases hst : stD (fun j => D j || j == i) L 0 S with
  | mk t h => rw [hst] at e1 e2; simp only [app1]; rw [← e1, ← e2]

/-- What a run says of each operation. -/
theorem Runs.get {P : Program} : ∀ {l : List AOper} {nm : Nat} {S : AState} {log : List (Ent × AV × Upd)} {fin : AState}, Runs P l nm S log fin →
    log.length = l.length ∧ (∀ (j : Nat) (x : Ent × AV × Upd), log[j]? = some x → ∃ o, l[j]? = some o ∧ x.1.wt = o.dst ∧ x.1.wh = x.2.2.map (·.1)) ∧
    (∀ k, fin = stD (fun _ => true) (log.map fun x => (x.1.wt, x.2.1, x.2.2)) k S) ∧
    ∀ (j : Nat) (o : AOper) (x : Ent × AV × Upd) (k : Nat), l[j]? = some o → log[j]? = some x → One P o (nm + j) (stD (fun q => decide (q < k + j)) (log.map fun x => (x.1.wt, x.2.1, x.2.2)) k S) x.1 x.2.1 x.2.2
  | _, _, _, _, _, .nil nm S => ⟨rfl, fun j x h => by simp at h, fun k => rfl, fun j o x k h => by simp at h⟩
  | _, nm, S, _, fin, @Runs.cons _ o l _ _ e v u log _ h1 h2 => by
    obtain ⟨g1, g2, g3, g4⟩ := Runs.get h2
    have hw : e.wt = o.dst ∧ e.wh = u.map (·.1) := by cases h1 <;> exact ⟨rfl, rfl⟩
    refine ⟨by simp [g1], fun j x hx => ?_, fun k => ?_, fun j o' x k ho hx => ?_⟩
    · cases j with
      | zero => simp at hx; subst hx; exact ⟨o, by simp, hw⟩
      | succ j => simp at hx; simpa using g2 j x hx
    · simp only [List.map_cons, stD, if_true]
      rw [hw.1]
      exact g3 (k + 1)
    · cases j with
      | zero =>
        simp at ho hx
        subst ho; subst hx
        have : stD (fun q => decide (q < k + 0)) (((e, v, u) :: log).map fun x => (x.1.wt, x.2.1, x.2.2)) k S = S := by
          have none : ∀ (L : List (Option Nat × AV × Upd)) (q : Nat) (S : AState), k ≤ q → stD (fun q => decide (q < k + 0)) L q S = S := by
            intro L; induction L with
            | nil => intro q S _; rfl
            | cons x r ih =>
              intro q S hq
              obtain ⟨d, v, u⟩ := x
              simp only [stD]
              rw [if_neg (by simp; omega)]
              exact ih _ _ (by omega)
          exact none _ k S (Nat.le_refl _)
        rw [this]
        exact h1
      | succ j =>
        simp at ho hx
        have := g4 j o' x (k + 1) ho hx
        simp only [List.map_cons, stD]
        rw [if_pos (by simp), hw.1]
        rw [show nm + (j + 1) = nm + 1 + j by omega]
        have e2 : (fun q => decide (q < k + (j + 1))) = fun q => decide (q < k + 1 + j) := by funext q; congr 1; simp; omega
        rw [e2]
        exact this

theorem freeE_spec {a b : Ent} (h : freeE a b = true) : (∀ t, a.wt = some t → t ∉ b.rt ∧ b.wt ≠ some t) ∧ (∀ t, b.wt = some t → t ∉ a.rt) ∧ (∀ n ∈ a.wh, n ∉ b.rh ∧ n ∉ b.wh) ∧ ∀ n ∈ b.wh, n ∉ a.rh := by
  simp only [freeE, Bool.and_eq_true, List.all_eq_true] at h
  obtain ⟨⟨⟨h1, h2⟩, h3⟩, h4⟩ := h
  refine ⟨fun t ht => ?_, fun t ht => ?_, fun n hn => ?_, fun n hn => ?_⟩
  · rw [ht] at h1; simpa using h1
  · rw [ht] at h2; simpa using h2
  · simpa using h3 n hn
  · simpa using h4 n hn

section draw
variable {P : Program} {E : Entry}

theorem any_sound {ops : Array Oper} {all : List AOper} (hc : ops.toList.mapM (compOper P true ops) = some all) {n : Nat} (hds : ∀ o ∈ all, ∀ d, o.dst = some d → d < n) {Q : Exit → Act → World → Prop} {S0 fin : AState} {nx : Nat}
    {log : List (Ent × AV × Upd)} (hr : Runs P all nx S0 log fin) (hok : drawOk (all.map (·.deps)) (log.map (·.1)) = true)
    (hQ : ∀ β a w, Sim E (fun k => nx + all.length ≤ k) fin β a w → Q .normal a w) :
    ∀ (fuel : Nat) (listed : Array Bool) (β : Nat → Value) (a : Act) (w : World), listed.size = ops.size → (∀ i d, i < ops.size → listed.getD i false = true → d ∈ ((all.map (·.deps)).getD i []) → listed.getD d false = true) →
      (listed.toList.filter (!·)).length = fuel → Sim E (fun k => nx ≤ k ∧ ∀ j, j < ops.size → listed.getD j false = true → k ≠ nx + j) (stD (fun j => listed.getD j false) (log.map fun x => (x.1.wt, x.2.1, x.2.2)) 0 S0) β a w → a.tmps.size = n →
      wpAny P .any ops Q fuel listed a w := by
  obtain ⟨hlen, hget⟩ := mapM_get hc
  obtain ⟨hl1, hl2, hl3, hl4⟩ := hr.get
  simp only [drawOk, Bool.and_eq_true, List.all_eq_true, List.mem_range, Bool.or_eq_true] at hok
  obtain ⟨hlow, hfree⟩ := hok
  have hlow' : ∀ (k : Nat) (d : List Nat), (all.map (·.deps))[k]? = some d → ∀ j ∈ d, j < k := fun k d hk j hj => by have := depsLow_spec hlow k d hk j hj; omega
  have hsz : ops.size = all.length := by rw [← hlen]; simp
  have comp : ∀ i, i < ops.size → ∃ o ao x, ops[i]? = some o ∧ all[i]? = some ao ∧ log[i]? = some x ∧ compOper P true ops o = some ao := by
    intro i hi
    have h1 : i < ops.toList.length := by simpa using hi
    have h2 : i < all.length := by omega
    have h3 : i < log.length := by omega
    refine ⟨ops.toList[i], all[i], log[i], ?_, List.getElem?_eq_getElem h2, List.getElem?_eq_getElem h3, ?_⟩
    · rw [← Array.getElem?_toList]; exact List.getElem?_eq_getElem h1
    · exact hget i _ _ (List.getElem?_eq_getElem h1) (List.getElem?_eq_getElem h2)
  -- ready or done
  have readyOf : ∀ (listed : Array Bool), listed.size = ops.size → Region.ready .any ops listed = [] → ∀ i, i < ops.size → listed.getD i false = true := by
    intro listed hls hre i
    induction i using Nat.strongRecOn with
    | _ i ih =>
      intro hi
      cases hb : listed.getD i false with
      | true => rfl
      | false =>
        exfalso
        obtain ⟨o, ao, x, h1, h2, h3, h4⟩ := comp i hi
        obtain ⟨_, _, _, hdp⟩ := compOper_inv h4
        simp only [if_true] at hdp
        have hm : i ∈ Region.ready .any ops listed := by
          simp only [Region.ready, List.mem_filter, List.mem_range, Bool.and_eq_true]
          refine ⟨hi, ?_, ?_⟩
          · have hil : i < listed.size := by omega
            simp only [Array.getD_eq_getD_getElem?, Array.getElem?_eq_getElem hil, Option.getD_some] at hb ⊢
            simp [hb]
          · rw [h1]
            simp only [Option.map_some, Option.getD_some, Array.all_eq_true_iff_forall_mem]
            intro e he
            cases hbn : Region.binds .any e with
            | false => simp
            | true =>
              have hmem : e.on ∈ ao.deps := by
                rw [hdp]
                exact List.mem_map.2 ⟨e, List.mem_filter.2 ⟨by simpa using he, hbn⟩, rfl⟩
              have hlt : e.on < i := hlow' i ao.deps (by simp [h2]) _ hmem
              simpa using ih e.on hlt (by omega)
        rw [hre] at hm
        cases hm
  have finish : ∀ (listed : Array Bool) β a w, listed.size = ops.size → Region.ready .any ops listed = [] → Sim E (fun k => nx ≤ k ∧ ∀ j, j < ops.size → listed.getD j false = true → k ≠ nx + j) (stD (fun j => listed.getD j false) (log.map fun x => (x.1.wt, x.2.1, x.2.2)) 0 S0) β a w → Q .normal a w := by
    intro listed β a w hls hre s
    have hall := readyOf listed hls hre
    refine hQ β a w ?_
    have e : stD (fun j => listed.getD j false) (log.map fun x => (x.1.wt, x.2.1, x.2.2)) 0 S0 = fin := by
      rw [hl3 0]
      have agree : ∀ (L : List (Option Nat × AV × Upd)) (k : Nat) (S : AState), k + L.length ≤ ops.size → stD (fun j => listed.getD j false) L k S = stD (fun _ => true) L k S := by
        intro L
        induction L with
        | nil => intro k S _; rfl
        | cons x r ih =>
          intro k S hk
          obtain ⟨d, v, u⟩ := x
          simp only [stD]
          rw [if_pos (hall k (by simp at hk; omega)), if_pos trivial]
          exact ih _ _ (by simp at hk; omega)
      exact agree _ 0 S0 (by simp; omega)
    rw [e] at s
    exact s.less fun k hk => ⟨by omega, fun j hj _ => by omega⟩
  intro fuel
  induction fuel with
  | zero =>
    intro listed β a w hls hcl hcnt s hn
    have hall : ∀ i, i < listed.size → listed.getD i false = true := by
      intro i hi
      have h0 : listed.toList.filter (!·) = [] := List.eq_nil_of_length_eq_zero hcnt
      rw [List.filter_eq_nil_iff] at h0
      have := h0 (listed[i]) (by simp)
      simpa [Array.getD_eq_getD_getElem?, hi] using this
    have hre : Region.ready .any ops listed = [] := by
      rw [List.eq_nil_iff_forall_not_mem]
      intro i hi
      simp only [Region.ready, List.mem_filter, List.mem_range, Bool.and_eq_true] at hi
      have hil : i < listed.size := by omega
      have := hall i hil
      have h2 := hi.2.1
      simp [Array.getD_eq_getD_getElem?, hil] at this h2
      rw [this] at h2
      cases h2
    exact ⟨hre, finish listed β a w hls hre s⟩
  | succ fuel ih =>
    intro listed β a w hls hcl hcnt s hn
    refine ⟨fun hre => finish listed β a w hls hre s, fun i hi => ?_⟩
    simp only [Region.ready, List.mem_filter, List.mem_range, Bool.and_eq_true] at hi
    obtain ⟨hilt, hnot, hall⟩ := hi
    have hil : i < listed.size := by omega
    have hnot' : listed.getD i false = false := by
      simp [Array.getD_eq_getD_getElem?, hil] at hnot ⊢
      exact hnot
    obtain ⟨o, ao, x, h1, h2, h3, h4⟩ := comp i hilt
    obtain ⟨_, _, hdst, hdp⟩ := compOper_inv h4
    simp only [if_true] at hdp
    -- what it waits for is done
    have hdeps : ∀ d ∈ ao.deps, listed.getD d false = true := by
      intro d hd
      rw [hdp] at hd
      obtain ⟨e, he, rfl⟩ := List.mem_map.1 hd
      obtain ⟨he1, he2⟩ := List.mem_filter.1 he
      rw [h1] at hall
      simp only [Option.map_some, Option.getD_some, Array.all_eq_true_iff_forall_mem] at hall
      have := hall e (by simpa using he1)
      simpa [he2] using this
    have hdi : (all.map (·.deps))[i]? = some ao.deps := by simp [h2]
    have D := fun j => listed.getD j false
    have closed : ∀ q, listed.getD q false = true → ∀ j ∈ (befs (all.map (·.deps)) []).getD q [], listed.getD j false = true := by
      refine befs_closed (fun q => listed.getD q false = true) hlow' (fun k d hk hDk j hj => ?_)
      have hkl : k < ops.size := by have := (List.getElem?_eq_some_iff.1 hk).1; simp at this; omega
      exact hcl k j hkl hDk (by rw [List.getD_eq_getElem?_getD, hk]; exact hj)
    have closedi : ∀ j ∈ (befs (all.map (·.deps)) []).getD i [], listed.getD j false = true := by
      intro j hj
      have := befs_closed (deps := all.map (·.deps)) (fun q => listed.getD q false = true ∨ q = i) hlow' (fun k d hk hDk j hj => by
        rcases hDk with hDk | rfl
        · have hkl : k < ops.size := by have := (List.getElem?_eq_some_iff.1 hk).1; simp at this; omega
          exact .inl (hcl k j hkl hDk (by rw [List.getD_eq_getElem?_getD, hk]; exact hj))
        · rw [hdi] at hk
          simp at hk
          subst hk
          exact .inl (hdeps j hj)) i (.inr rfl) j hj
      rcases this with h | h
      · exact h
      · exfalso
        have := befs_low hlow' i j hj
        omega
    -- the reads agree
    have hxw := hl2 i x h3
    obtain ⟨ao', hao', hxw1, hxw2⟩ := hxw
    rw [h2] at hao'
    simp only [Option.some.injEq] at hao'
    subst hao'
    have hent : ∀ j y, log[j]? = some y → (log.map (·.1)).getD j default = y.1 := fun j y hy => by simp [List.getD_eq_getElem?_getD, hy]
    have hlogl : ∀ j y, log[j]? = some y → j < ops.size := fun j y hy => by have := (List.getElem?_eq_some_iff.1 hy).1; omega
    have free : ∀ j y, log[j]? = some y → (listed.getD j false = true) ≠ (j < i) → j ≠ i → (j < i → freeE y.1 x.1 = true) ∧ (i < j → freeE x.1 y.1 = true) := by
      intro j y hy hne hji
      refine ⟨fun hlt => ?_, fun hlt => ?_⟩
      · have hnD : ¬ listed.getD j false = true := fun h => hne (propext ⟨fun _ => hlt, fun _ => h⟩)
        rcases hfree i (by simp; omega) j hlt with h | h
        · exact absurd (closedi j (by simpa using h)) hnD
        · rw [hent j y hy, hent i x h3] at h; exact h
      · have hD : listed.getD j false = true := by
          cases hDj : listed.getD j false with
          | true => rfl
          | false => exact absurd (propext ⟨fun h => by (rw [hDj] at h; cases h), fun h => by omega⟩) hne
        rcases hfree j (by have := hlogl j y hy; simp; omega) i hlt with h | h
        · have := closed j hD i (by simpa using h)
          rw [hnot'] at this
          cases this
        · rw [hent i x h3, hent j y hy] at h; exact h
    have hone := hl4 i ao x 0 h2 h3
    simp only [Nat.zero_add] at hone
    have hL : ∀ (j : Nat) (z : Option Nat × AV × Upd), (log.map fun x => (x.1.wt, x.2.1, x.2.2))[j]? = some z → ∃ y : Ent × AV × Upd, log[j]? = some y ∧ z = (y.1.wt, y.2.1, y.2.2) := by
      intro j z hz
      rw [List.getElem?_map, Option.map_eq_some_iff] at hz
      obtain ⟨y, hy, rfl⟩ := hz
      exact ⟨y, hy, rfl⟩
    have hone' : One P ao (nx + i) (stD (fun j => listed.getD j false) (log.map fun x => (x.1.wt, x.2.1, x.2.2)) 0 S0) x.1 x.2.1 x.2.2 := by
      refine hone.congr (fun t ht => ?_) (fun k hk => ?_)
      · refine stD_congr _ _ t _ 0 S0 S0 rfl (fun j z hz hzt => ?_)
        obtain ⟨y, hy, rfl⟩ := hL j z hz
        simp only [Nat.zero_add]
        by_cases hji : j = i
        · subst hji
          rw [hnot']
          simp
        · by_cases hcon : (listed.getD j false = true) ≠ (j < i)
          · obtain ⟨f1, f2⟩ := free j y hy hcon hji
            rcases Nat.lt_or_gt_of_ne hji with hlt | hlt
            · exact absurd ht ((freeE_spec (f1 hlt)).1 t hzt).1
            · exact absurd ht ((freeE_spec (f2 hlt)).2.1 t hzt)
          · have hcon' : (listed.getD j false = true) = (j < i) := Classical.not_not.1 hcon
            cases hDj : listed.getD j false with
            | true => rw [hDj] at hcon'; simpa using hcon'.symm
            | false => rw [hDj] at hcon'; simpa using hcon'.symm
      · refine stD_congrH _ _ k _ 0 S0 S0 rfl (fun j z hz hzt => ?_)
        obtain ⟨y, hy, rfl⟩ := hL j z hz
        simp only [Nat.zero_add]
        obtain ⟨_, _, _, hyw⟩ := hl2 j y hy
        by_cases hji : j = i
        · subst hji
          rw [hnot']
          simp
        · by_cases hcon : (listed.getD j false = true) ≠ (j < i)
          · obtain ⟨f1, f2⟩ := free j y hy hcon hji
            rcases Nat.lt_or_gt_of_ne hji with hlt | hlt
            · exact absurd hk ((freeE_spec (f1 hlt)).2.2.1 k (by rw [hyw]; exact hzt)).1
            · exact absurd hk ((freeE_spec (f2 hlt)).2.2.2 k (by rw [hyw]; exact hzt))
          · have hcon' : (listed.getD j false = true) = (j < i) := Classical.not_not.1 hcon
            cases hDj : listed.getD j false with
            | true => rw [hDj] at hcon'; simpa using hcon'.symm
            | false => rw [hDj] at hcon'; simpa using hcon'.symm
    have hins : stD (fun j => listed.getD j false || j == i) (log.map fun x => (x.1.wt, x.2.1, x.2.2)) 0 S0 = app1 (stD (fun j => listed.getD j false) (log.map fun x => (x.1.wt, x.2.1, x.2.2)) 0 S0) x.1.wt x.2.1 x.2.2 := by
      refine stD_insert _ _ S0 (by simp [h3]) (fun j z hj hz hDj t htt hzt => ?_) (fun j z hj hz hDj k hk hkz => ?_)
      · obtain ⟨y, hy, rfl⟩ := hL j z hz
        obtain ⟨_, f2⟩ := free j y hy (fun e => by have : j < i := cast e hDj; omega) (by omega)
        exact ((freeE_spec (f2 hj)).1 t htt).2 hzt
      · obtain ⟨y, hy, rfl⟩ := hL j z hz
        obtain ⟨_, _, _, hyw⟩ := hl2 j y hy
        obtain ⟨_, f2⟩ := free j y hy (fun e => by have : j < i := cast e hDj; omega) (by omega)
        exact ((freeE_spec (f2 hj)).2.2.1 k (by rw [hxw2]; exact hk)).2 (by rw [hyw]; exact hkz)
    have hset : ∀ j, (listed.setIfInBounds i true).getD j false = (listed.getD j false || j == i) := by
      intro j
      simp only [Array.getD_eq_getD_getElem?, Array.getElem?_setIfInBounds]
      by_cases hji : i = j
      · subst hji; simp [hil]
      · simp [hji, show ¬ j = i from fun e => hji e.symm]
    refine one_sound (nm := nx + i) h1 h4 s ⟨by omega, fun j hj hDj => by intro e; have : j = i := by omega
                                                                          subst this; rw [hnot'] at hDj; cases hDj⟩ (fun d hd => by rw [hn]; exact hds ao (List.mem_of_getElem? h2) d (by rw [hdst]; exact hd)) hone' (fun β' c w' s' => ?_)
    refine ih (listed.setIfInBounds i true) β' _ w' (by simpa using hls) (fun k d hk hDk hd => ?_) ?_ ?_ (by rw [size_put]; exact hn)
    · rw [hset] at hDk ⊢
      simp only [Bool.or_eq_true, beq_iff_eq] at hDk ⊢
      rcases hDk with hDk | rfl
      · exact .inl (hcl k d hk hDk hd)
      · rw [List.getD_eq_getElem?_getD, hdi] at hd
        exact .inl (hdeps d hd)
    · have hfl : listed[i] = false := by simpa [Array.getD_eq_getD_getElem?, hil] using hnot'
      have cnt : ∀ (l : List Bool) (i : Nat), l[i]? = some false → ((l.set i true).filter (!·)).length + 1 = (l.filter (!·)).length := by
        intro l
        induction l with
        | nil => intro i h; simp at h
        | cons b r ihl =>
          intro i h
          cases i with
          | zero => simp at h; subst h; simp
          | succ i =>
            simp at h
            have := ihl i h
            cases b <;> simp at this ⊢ <;> omega
      have := cnt listed.toList i (by simp [hil, hfl])
      simp only [Array.toList_setIfInBounds]
      omega
    · have e3 : (fun j => (listed.setIfInBounds i true).getD j false) = fun j => listed.getD j false || j == i := funext hset
      rw [e3, hins, hxw1]
      refine s'.less fun k hk => ⟨⟨hk.1, fun j hj hDj => hk.2 j hj (by rw [hset]; simp [hDj])⟩, hk.2 i hilt (by rw [hset]; simp)⟩

theorem wp_aregion_draw (hm : P.follows .mixedOrders = true) {ops : Array Oper} {all : List AOper} (hc : ops.toList.mapM (compOper P true ops) = some all) {n : Nat} (hds : ∀ o ∈ all, ∀ d, o.dst = some d → d < n) {Q : Exit → Act → World → Prop} {nx : Nat} {S : AState} {K : AState → Prop}
    (h : aopsL P all nx S [] (fun S' es => drawOk (all.map (·.deps)) es = true ∧ K S')) (hQ : ∀ S' β a w, K S' → Sim E (fun k => nx + all.length ≤ k) S' β a w → a.tmps.size = n → Q .normal a w) {id : Nat} {β : Nat → Value} {a : Act} {w : World} (s : Sim E (fun k => nx ≤ k) S β a w) (hn : a.tmps.size = n) :
    (Code.region id ops true).wp P Q a w := by
  obtain ⟨log, S', h1, h2, h3⟩ := aopsL_runs all nx S [] _ h
  have hE : E.n = n := by rw [← hn]; exact s.sz.symm
  refine wp_region_any hm ?_
  refine any_sound (E := E) hc hds h1 (by simpa using h2) (fun β a w s' => hQ S' β a w h3 s' (by rw [s'.sz, hE])) ops.size _ β a _ (by simp) (fun i d hi h => ?_) ?_ ?_ hn
  · simp [Array.getD_eq_getD_getElem?] at h
    simp [hi] at h
  · simp
  · have e : (fun j => (Array.replicate ops.size false).getD j false) = fun _ => false := by
      funext j
      simp only [Array.getD_eq_getD_getElem?, Array.getElem?_replicate]
      split <;> rfl
    have none : ∀ (L : List (Option Nat × AV × Upd)) (k : Nat) (S : AState), stD (fun _ => false) L k S = S := by
      intro L; induction L with
      | nil => intro k S; rfl
      | cons x r ih => intro k S; obtain ⟨d, v, u⟩ := x; simp only [stD]; exact ih _ _
    rw [e, none]
    exact s.drew.less fun k hk => hk.1
end draw

end Go.Ab
end
section
set_option linter.unusedVariables false
set_option linter.unusedSimpArgs false
namespace Go.Ab
open Go.RowKit

inductive AExit
  | normal
  | exit (id : Nat)
  | ret
  deriving DecidableEq

def AExit.conv : AExit → Exit
  | .normal => .normal
  | .exit id => .exit id
  | .ret => .ret

def opsOk (n : Nat) (l : List AOper) : Bool := l.all fun o => match o.dst with | some d => decide (d < n) | none => true
/-- Every slot that is written lies in the frame. -/
def ACode.ok (n : Nat) : ACode → Bool
  | .region _ l => opsOk n l
  | .seq a b | .cond _ a b => a.ok n && b.ok n
  | .block _ c | .loop c | .scope c => c.ok n
  | _ => true

/-- What is asked of an entry: 'bs' names came in; if none, no old block may be written. -/
def Entry.fits (E : Entry) (bs : Nat) : Prop := (∀ k, bs ≤ k → E.β0 k = undef) ∧ (bs = 0 → ∀ g, ¬ E.may g)

/-- Carried out from any frame and world that fit S, the code ends as Q says. 'n': the frame's size; 'bs': the names below it came in. -/
def Awp (P : Program) (n bs : Nat) (c : ACode) (nx : Nat) (S : AState) (Q : AExit → Nat → AState → Prop) : Prop :=
  ∀ code, compCode P code = some c → c.ok n = true → P.follows .mixedOrders = true → ∀ E β a w, E.n = n → E.fits bs → Sim E (fun k => nx ≤ k) S β a w → ∀ Q' : Exit → Act → World → Prop,
    (∀ e nx' S' β' a' w', Q e nx' S' → Sim E (fun k => nx' ≤ k) S' β' a' w' → Q' e.conv a' w') → code.wp P Q' a w

section rules
variable {P : Program} {n bs nx : Nat} {S : AState} {Q : AExit → Nat → AState → Prop}

theorem Awp.skip (h : Q .normal nx S) : Awp P n bs .skip nx S Q := fun code hc _ _ E β a w _ _ s Q' hQ => by
  cases code <;> simp [compCode] at hc
  · exact wp_skip (hQ .normal nx S β a w h s)
  all_goals grind
theorem Awp.ret (h : Q .ret nx S) : Awp P n bs .ret nx S Q := fun code hc _ _ E β a w _ _ s Q' hQ => by
  cases code <;> simp [compCode] at hc
  case ret => exact wp_ret (hQ .ret nx S β a w h s)
  all_goals grind
theorem Awp.exit {id : Nat} (h : Q (.exit id) nx S) : Awp P n bs (.exit id) nx S Q := fun code hc _ _ E β a w _ _ s Q' hQ => by
  cases code <;> simp [compCode] at hc
  case exit id' => subst hc; exact wp_exit (hQ (.exit id') nx S β a w h s)
  all_goals grind

theorem Awp.region {l : List AOper} (h : aops P l nx S fun S' => Q .normal (nx + l.length) S') : Awp P n bs (.region false l) nx S Q := fun code hc hok _ E β a w hE _ s Q' hQ => by
  cases code <;> simp [compCode] at hc
  case region id ops draw =>
    obtain ⟨h1, rfl⟩ := hc
    refine wp_aregion (n := n) h1 (fun o ho d hd => ?_) h (fun S' β a w hk s' _ => hQ .normal _ S' β a w hk s') s (by rw [s.sz, hE])
    have := List.all_eq_true.1 hok o ho
    rw [hd] at this
    simpa using this
  all_goals grind

theorem Awp.draw {l : List AOper} (h : aopsL P l nx S [] fun S' es => drawOk (l.map (·.deps)) es = true ∧ Q .normal (nx + l.length) S') : Awp P n bs (.region true l) nx S Q := fun code hc hok hm E β a w hE _ s Q' hQ => by
  cases code <;> simp [compCode] at hc
  case region id ops draw =>
    obtain ⟨h1, rfl⟩ := hc
    refine wp_aregion_draw hm (n := n) h1 (fun o ho d hd => ?_) h (fun S' β a w hk s' _ => hQ .normal _ S' β a w hk s') s (by rw [s.sz, hE])
    have := List.all_eq_true.1 hok o ho
    rw [hd] at this
    simpa using this
  all_goals grind

def seqQ (K : Nat → AState → Prop) (Q : AExit → Nat → AState → Prop) : AExit → Nat → AState → Prop
  | .normal, nx, S => K nx S
  | e, nx, S => Q e nx S

theorem Awp.seq {x y : ACode} (h : Awp P n bs x nx S (seqQ (fun nx' S' => Awp P n bs y nx' S' Q) Q)) : Awp P n bs (.seq x y) nx S Q := fun code hc hok hm E β a w hE h0 s Q' hQ => by
  cases code <;> simp [compCode] at hc
  case seq cx cy =>
    cases h1 : compCode P cx <;> cases h2 : compCode P cy <;> simp [h1, h2] at hc
    obtain ⟨rfl, rfl⟩ := hc
    simp only [ACode.ok, Bool.and_eq_true] at hok
    refine wp_seq (h cx h1 hok.1 hm E β a w hE h0 s _ fun e nx' S' β' a' w' q s' => ?_)
    cases e with
    | normal => exact q cy h2 hok.2 hm E β' a' w' hE h0 s' Q' hQ
    | exit id => exact hQ (.exit id) _ _ β' a' w' q s'
    | ret => exact hQ .ret _ _ β' a' w' q s'
  all_goals grind

theorem Awp.seq_region {l : List AOper} {y : ACode} (h : aops P l nx S fun S' => Awp P n bs y (nx + l.length) S' Q) : Awp P n bs (.seq (.region false l) y) nx S Q := Awp.seq (Awp.region h)
theorem Awp.seq_draw {l : List AOper} {y : ACode} (h : aopsL P l nx S [] fun S' es => drawOk (l.map (·.deps)) es = true ∧ Awp P n bs y (nx + l.length) S' Q) : Awp P n bs (.seq (.region true l) y) nx S Q := Awp.seq (Awp.draw h)

theorem Awp.cond {c : AOpd} {x y : ACode} {t : Bool} (hc : evo S c = .v (.bool t)) (h1 : t = true → Awp P n bs x nx S Q) (h2 : t = false → Awp P n bs y nx S Q) : Awp P n bs (.cond c x y) nx S Q := fun code hcc hok hm E β a w hE h0 s Q' hQ => by
  cases code <;> simp [compCode] at hcc
  case cond cc cx cy =>
    cases g0 : compOpd cc <;> cases g1 : compCode P cx <;> cases g2 : compCode P cy <;> simp [g0, g1, g2] at hcc
    obtain ⟨rfl, rfl, rfl⟩ := hcc
    simp only [ACode.ok, Bool.and_eq_true] at hok
    have hv := sim_evo s g0
    rw [hc] at hv
    refine wp_cond_split hv.v_inv (fun ht => h1 ht cx g1 hok.1 hm E β a w hE h0 s Q' hQ) (fun ht => h2 ht cy g2 hok.2 hm E β a w hE h0 s Q' hQ)
  all_goals grind

def blockQ (id : Nat) (Q : AExit → Nat → AState → Prop) : AExit → Nat → AState → Prop
  | .exit i, nx, S => if i = id then Q .normal nx S else Q (.exit i) nx S
  | e, nx, S => Q e nx S

theorem Awp.block {id : Nat} {x : ACode} (h : Awp P n bs x nx S (blockQ id Q)) : Awp P n bs (.block id x) nx S Q := fun code hc hok hm E β a w hE h0 s Q' hQ => by
  cases code <;> simp [compCode] at hc
  case block id' cx =>
    obtain ⟨h1, rfl⟩ := hc
    refine wp_block (h cx h1 hok hm E β a w hE h0 s _ fun e nx' S' β' a' w' q s' => ?_)
    cases e with
    | normal => exact hQ .normal _ _ β' a' w' q s'
    | exit i =>
      simp only [blockQ] at q
      simp only [AExit.conv, Exit.inBlock]
      split at q
      · rename_i hi; subst hi; simp only [if_true]; exact hQ .normal _ _ β' a' w' q s'
      · rename_i hi; rw [if_neg (by simpa using hi)]; exact hQ (.exit i) _ _ β' a' w' q s'
    | ret => exact hQ .ret _ _ β' a' w' q s'
  all_goals grind

/-- Another view: whatever fits S fits S'. -/
def Ghost (bs nx : Nat) (S : AState) (nx' : Nat) (S' : AState) : Prop :=
  ∀ E β a w, E.fits bs → Sim E (fun k => nx ≤ k) S β a w → ∃ β', Sim E (fun k => nx' ≤ k) S' β' a w

theorem Ghost.trans {bs n1 n2 n3 : Nat} {S1 S2 S3 : AState} (h : Ghost bs n1 S1 n2 S2) (k : Ghost bs n2 S2 n3 S3) : Ghost bs n1 S1 n3 S3 := fun E β a w h0 s => by
  obtain ⟨β', s'⟩ := h E β a w h0 s
  exact k E β' a w h0 s'

theorem Awp.ghost {nx' : Nat} {S' : AState} {c : ACode} (g : Ghost bs nx S nx' S') (h : Awp P n bs c nx' S' Q) : Awp P n bs c nx S Q := fun code hc hok hm E β a w hE h0 s Q' hQ => by
  obtain ⟨β', s'⟩ := g E β a w h0 s
  exact h code hc hok hm E β' a w hE h0 s' Q' hQ

def loopQ (K : Nat → AState → Prop) (Q : AExit → Nat → AState → Prop) : AExit → Nat → AState → Prop
  | .normal, nx, S => K nx S
  | e, nx, S => Q e nx S

/-- A loop: at each round's head the state is one of 'St x', x as 'Inv' says, and 'm' falls. -/
theorem Awp.loop {c : ACode} {α : Type} (Inv : α → Prop) (N : Nat) (St : α → AState) (m : α → Nat) (x0 : α) (h0 : Inv x0) (g0 : Ghost bs nx S N (St x0))
    (hr : ∀ x, Inv x → Awp P n bs c N (St x) (loopQ (fun nx' S' => ∃ y, Inv y ∧ m y < m x ∧ Ghost bs nx' S' N (St y)) Q)) : Awp P n bs (.loop c) nx S Q := fun code hc hok hm E β a w hE hβ s Q' hQ => by
  cases code <;> simp [compCode] at hc
  case loop cx =>
    obtain ⟨β0, s0⟩ := g0 E β a w hβ s
    have hmeas : ∀ (a : Act) (w : World), (∃ x β, Inv x ∧ Sim E (fun k => N ≤ k) (St x) β a w) → ∃ k x β, Inv x ∧ Sim E (fun k => N ≤ k) (St x) β a w ∧ m x = k := fun a w ⟨x, β, h1, h2⟩ => ⟨_, x, β, h1, h2, rfl⟩
    -- by the least measure of a state that fits
    have least : ∀ (a : Act) (w : World), (∃ k x β, Inv x ∧ Sim E (fun k => N ≤ k) (St x) β a w ∧ m x = k) → ∃ k, (∃ x β, Inv x ∧ Sim E (fun k => N ≤ k) (St x) β a w ∧ m x = k) ∧ ∀ j, (∃ x β, Inv x ∧ Sim E (fun k => N ≤ k) (St x) β a w ∧ m x = j) → k ≤ j := by
      intro a w ⟨k, hk⟩
      induction k using Nat.strongRecOn with
      | _ k ih =>
        by_cases h : ∃ j, j < k ∧ ∃ x β, Inv x ∧ Sim E (fun k => N ≤ k) (St x) β a w ∧ m x = j
        · obtain ⟨j, hj, hx⟩ := h
          exact ih j hj hx
        · refine ⟨k, hk, fun j hj => ?_⟩
          rcases Nat.lt_or_ge j k with hlt | hge
          · exact absurd ⟨j, hlt, hj⟩ h
          · exact hge
    open Classical in
    refine wp_loop (fun a w => ∃ x β, Inv x ∧ Sim E (fun k => N ≤ k) (St x) β a w) (fun a w => if h : ∃ k x β, Inv x ∧ Sim E (fun k => N ≤ k) (St x) β a w ∧ m x = k then Classical.choose (least a w h) else 0) ⟨x0, β0, h0, s0⟩ (fun a w hI => ?_)
    have hk := hmeas a w hI
    have hc1 := Classical.choose_spec (least a w hk)
    obtain ⟨⟨x, β1, hx, s1, hmx⟩, hle⟩ := hc1
    refine hr x hx cx hc hok hm E β1 a w hE hβ s1 _ fun e nx' S' β' a' w' q s' => ?_
    cases e with
    | normal =>
      obtain ⟨y, hy, hlt, g⟩ := q
      obtain ⟨β2, s2⟩ := g E β' a' w' hβ s'
      have hI2 : ∃ x β, Inv x ∧ Sim E (fun k => N ≤ k) (St x) β a' w' := ⟨y, β2, hy, s2⟩
      refine ⟨hI2, ?_⟩
      have hk2 := hmeas a' w' hI2
      have hc2 := (Classical.choose_spec (least a' w' hk2)).2 (m y) ⟨y, β2, hy, s2, rfl⟩
      rw [dif_pos hk, dif_pos hk2]
      omega
    | exit i => exact hQ (.exit i) _ _ β' a' w' q s'
    | ret => exact hQ .ret _ _ β' a' w' q s'
  all_goals grind
end rules

end Go.Ab
end
section
set_option linter.unusedVariables false
set_option linter.unusedSimpArgs false
namespace Go.Ab
open Go.RowKit

def lk {α : Type} (d : α) : List (Nat × α) → Nat → α
  | [], _ => d
  | (k, x) :: r, n => if n = k then x else lk d r n
/-- A state written out. -/
def mkS (ts : List (Nat × AV)) (hs : List (Nat × Blk)) : AState := ⟨lk .any ts, listH hs⟩

/-- A value with its own blocks taken for memory that nobody writes any more. -/
inductive Lower (h : Nat → Option Blk) : AV → AV → Prop
  | same (x : AV) (hx : x.flat = true) : Lower h x x
  | any (x : AV) : Lower h x .any
  | nil0 : Lower h .nils (.sl [])
  | full (es : List (List AV)) (sz : Nat) (e : TypeId) : Lower h (.slf es sz e) (.sl es)
  | own {b es sz e} (hb : h b = some (.row es sz e)) : Lower h (.own b) (.sl es)
  | pre {b k es sz e} (hb : h b = some (.row es sz e)) (hk : k ≤ es.length) : Lower h (.pre b k) (.sl (es.take k))
  | bp {b o cs cs'} (hb : h b = some (.box cs)) (hl : cs.length = cs'.length) (ho : o ≤ cs.length) (hr : ∀ j, j < cs.length → Lower h (av cs j) (av cs' j)) : Lower h (.bp b o) (.rp (cs'.drop o))
  | ep {b sz i o es e} (hb : h b = some (.row es sz e)) (hi : i < es.length) : Lower h (.ep b sz i o) (.rp ((es.getD i []).drop o))
  | agg {cs cs'} (hl : cs.length = cs'.length) (hr : ∀ j, j < cs.length → Lower h (av cs j) (av cs' j)) : Lower h (.agg cs) (.agg cs')
  | tup {cs cs'} (hl : cs.length = cs'.length) (hr : ∀ j, j < cs.length → Lower h (av cs j) (av cs' j)) : Lower h (.tup cs) (.tup cs')
  | fn {f cs cs'} (hl : cs.length = cs'.length) (hr : ∀ j, j < cs.length → Lower h (av cs j) (av cs' j)) : Lower h (.fn f cs) (.fn f cs')

theorem pure_of_row {st : Nat → Prop} {w : World} {es : List (List AV)} {sz : Nat} {e : TypeId} {c : Value} {xs : List Value} (h : RowFits st w es sz e c xs) (hc : ∀ g, blkOf c = some g → st g) : PureV st w (.sl es) c := by
  rcases h.row with ⟨a, rfl, h0, _⟩ | ⟨g, cap, rfl, h0, h1⟩
  · have : es = [] := List.eq_nil_of_length_eq_zero h0
    subst this
    exact .slE a 0 (Nat.zero_le _)
  · have hcap : es.length ≤ cap ∧ cap ≤ maxLen := by
      rcases h1.2 with ⟨h', _⟩ | ⟨g', cap', cur, h', _, _, h3, h4, _⟩
      · cases h'
      · simp at h'; omega
    by_cases hne : es = []
    · subst hne
      exact .slE _ cap hcap.2
    · refine .slC es g 0 cap sz (fun i j => cv xs (i * sz + j)) hcap.1 hcap.2 h.pos hne h.z (hc g (by simp [blkOf]; omega)) (fun i j hi hj => ?_) (fun i j hi hj => h.cell i j hi hj)
      have hlt : i * sz + j < xs.length := by rw [h.row.len]; exact mul_in hi hj
      rw [Nat.zero_add]
      exact ⟨h.row.cellAt rfl _ hlt, h.one _ (cv_mem hlt)⟩

theorem Lower.sound {st st' : Nat → Prop} {β : Nat → Value} {w : World} {h : Nat → Option Blk} (hb : ∀ n b, h n = some b → BlkRep st β w b (β n)) (hst : ∀ g, st g → st' g) (hl : ∀ n b g, h n = some b → blkOf (β n) = some g → st' g) {x y : AV}
    (p : Lower h x y) : ∀ {c}, SimV st β w x c → PureV st' w y c := by
  have mono : ∀ {x c}, PureV st w x c → PureV st' w x c := fun p => p.mono fun g hg => ⟨hst g hg, rfl⟩
  induction p with
  | same x hx => exact fun s => mono (s.flat hx)
  | any x => exact fun _ => .any _
  | nil0 => intro c s; obtain ⟨a, rfl⟩ := s.nils_inv; exact .slE a 0 (Nat.zero_le _)
  | full es sz e =>
    intro c s
    obtain ⟨g, xs, rfl, hg, hf⟩ := s.slf_inv
    exact mono (pure_of_row hf fun k hk => by
      have : k = g := by simp only [blkOf] at hk; split at hk <;> simp_all
      subst this; exact hg)
  | own hB =>
    intro c s
    obtain ⟨rfl, _⟩ := s.own_inv
    obtain ⟨xs, hf⟩ := hb _ _ hB
    exact pure_of_row ⟨hf.z, hf.pos, hf.row, hf.one, fun i j hi hj => mono (hf.cell i j hi hj)⟩ (fun g hg => hl _ _ g hB hg)
  | @pre b k es sz e hB hk =>
    intro c s
    obtain ⟨a, m, cap, cap', h1, rfl, h2, h3⟩ := s.pre_inv
    obtain ⟨xs, hf⟩ := hb _ _ hB
    by_cases h0 : k = 0
    · subst h0
      exact .slE a cap' h3
    · rcases hf.row with ⟨a', h5, h6, _⟩ | ⟨g, cap2, h5, h6, h7⟩
      · omega
      · have hab : a = some ⟨g, 0, none⟩ := by rw [h1] at h5; simp at h5; exact h5.1
        subst hab
        have hlt : (es.take k).length = k := by simp; omega
        have hat : ∀ i, i < k → (es.take k).getD i [] = es.getD i [] := fun i hi => by simp [List.getD_eq_getElem?_getD, List.getElem?_take_of_lt hi]
        have hst' : st' g := hl _ _ g hB (by rw [h5]; simp [blkOf]; omega)
        have hres := PureV.slC (st := st') (w := w) (es.take k) g 0 cap' sz (fun i j => cv xs (i * sz + j)) (by omega) h3 hf.pos (fun e' => by rw [e'] at hlt; simp at hlt; omega) (fun x hx => hf.z x (List.mem_of_mem_take hx)) hst'
          (fun i j hi hj => by
            have hin : i * sz + j < xs.length := by rw [hf.row.len]; exact mul_in (by omega) hj
            rw [Nat.zero_add]
            exact ⟨hf.row.cellAt h5 _ hin, hf.one _ (cv_mem hin)⟩)
          (fun i j hi hj => by
            rw [hat i (by omega)]
            exact mono (hf.cell i j (by omega) hj))
        rw [hlt] at hres
        exact hres
  | @bp b o cs cs' hB hlen ho hr ih =>
    intro c s
    obtain ⟨g, h1, rfl⟩ := s.bp_inv
    obtain ⟨g', ty, xs, f1, f2, f3, f4, f5⟩ := hb _ _ hB
    rw [h1] at f1
    simp at f1
    subst f1
    refine .rp _ g o (fun j => cv xs (o + j)) (hl _ _ g hB (by rw [h1]; rfl)) (fun j hj => ?_) (fun j hj => ?_)
    · have hlt : o + j < xs.length := by simp at hj; omega
      refine ⟨?_, f4 _ (cv_mem hlt)⟩
      rw [cell_of_row w g (o + j) xs.toArray ty (0, 0) f2, ← cv_getElem? hlt]
      simp
    · have hlt : o + j < cs.length := by simp at hj; omega
      rw [av_drop]
      exact ih _ hlt (f5 _ hlt)
  | @ep b sz i o es e hB hi =>
    intro c s
    obtain ⟨g, n, cap, h1, rfl⟩ := s.ep_inv
    obtain ⟨xs, hf⟩ := hb _ _ hB
    have hz : (es.getD i []).length = sz := hf.z _ (by simp [List.getD_eq_getElem?_getD, hi])
    have hcap : blkOf (β b) = some g := by
      rcases hf.row with ⟨a, h2, h3, _⟩ | ⟨g', cap', h2, h3, _⟩
      · omega
      · rw [h2] at h1 ⊢; simp at h1; obtain ⟨rfl, _⟩ := h1; simp [blkOf]; omega
    refine .rp _ g (i * sz + o) (fun j => cv xs (i * sz + (o + j))) (hl _ _ g hB hcap) (fun j hj => ?_) (fun j hj => ?_)
    · have hlt : i * sz + (o + j) < xs.length := by rw [hf.row.len]; exact mul_in hi (by rw [List.length_drop, hz] at hj; omega)
      rw [Nat.add_assoc]
      exact ⟨hf.row.cellAt h1 _ hlt, hf.one _ (cv_mem hlt)⟩
    · rw [av_drop]
      exact mono (hf.cell i (o + j) hi (by rw [List.length_drop, hz] at hj; omega))
  | agg hlen hr ih =>
    intro c s
    obtain ⟨xs, rfl, h1, h2, h3⟩ := s.agg_inv
    exact .agg _ xs (by omega) h2 fun j hj => ih j (by omega) (h3 j (by omega))
  | tup hlen hr ih =>
    intro c s
    obtain ⟨xs, rfl, h1, h3⟩ := s.tup_inv
    exact .tup _ xs (by omega) fun j hj => ih j (by omega) (h3 j (by omega))
  | fn hlen hr ih =>
    intro c s
    obtain ⟨xs, rfl, h1, h3⟩ := s.fn_inv
    exact .fn _ _ xs (by omega) fun j hj => ih j (by omega) (h3 j (by omega))

/-- Another view of a value: some things forgotten, the names turned, dead blocks taken for memory that nobody writes. -/
inductive View (hd : Nat → Option Blk) (ρ : Nat → Nat) (nx : Nat) : AV → AV → Prop
  | any (x) : View hd ρ nx x .any
  | low {x y} (h : Lower hd x y) : View hd ρ nx x y
  | agg {cs cs'} (hl : cs.length = cs'.length) (hr : ∀ j, j < cs.length → View hd ρ nx (av cs j) (av cs' j)) : View hd ρ nx (.agg cs) (.agg cs')
  | tup {cs cs'} (hl : cs.length = cs'.length) (hr : ∀ j, j < cs.length → View hd ρ nx (av cs j) (av cs' j)) : View hd ρ nx (.tup cs) (.tup cs')
  | fn {f cs cs'} (hl : cs.length = cs'.length) (hr : ∀ j, j < cs.length → View hd ρ nx (av cs j) (av cs' j)) : View hd ρ nx (.fn f cs) (.fn f cs')
  | own {b n} (hb : ρ n = b) (hn : n < nx) : View hd ρ nx (.own b) (.own n)
  | pre {b n k} (hb : ρ n = b) (hn : n < nx) : View hd ρ nx (.pre b k) (.pre n k)
  | bp {b n o} (hb : ρ n = b) (hn : n < nx) : View hd ρ nx (.bp b o) (.bp n o)
  | ep {b n sz i o} (hb : ρ n = b) (hn : n < nx) : View hd ρ nx (.ep b sz i o) (.ep n sz i o)

inductive BView (hd : Nat → Option Blk) (ρ : Nat → Nat) (nx : Nat) : Blk → Blk → Prop
  | box {cs cs'} (hl : cs.length = cs'.length) (hr : ∀ j, j < cs.length → View hd ρ nx (av cs j) (av cs' j)) : BView hd ρ nx (.box cs) (.box cs')
  | row (es sz e) : BView hd ρ nx (.row es sz e) (.row es sz e)
  | iter (s pos) : BView hd ρ nx (.iter s pos) (.iter s pos)

def renβ (β : Nat → Value) (ρ : Nat → Nat) (nx : Nat) (n : Nat) : Value := if n < nx then β (ρ n) else undef

theorem View.sound {st st' : Nat → Prop} {β : Nat → Value} {w : World} {hd : Nat → Option Blk} {ρ : Nat → Nat} {nx : Nat} (hb : ∀ n b, hd n = some b → BlkRep st β w b (β n)) (hst : ∀ g, st g → st' g) (hl : ∀ n b g, hd n = some b → blkOf (β n) = some g → st' g) {x y : AV}
    (p : View hd ρ nx x y) : ∀ {c}, SimV st β w x c → SimV st' (renβ β ρ nx) w y c := by
  induction p with
  | any x => exact fun _ => .pure (.any _)
  | low h => exact fun s => .pure (h.sound hb hst hl s)
  | agg hlen hr ih =>
    intro c s
    obtain ⟨xs, rfl, h1, h2, h3⟩ := s.agg_inv
    exact .agg _ xs (by omega) h2 fun j hj => ih j (by omega) (h3 j (by omega))
  | tup hlen hr ih =>
    intro c s
    obtain ⟨xs, rfl, h1, h3⟩ := s.tup_inv
    exact .tup _ xs (by omega) fun j hj => ih j (by omega) (h3 j (by omega))
  | fn hlen hr ih =>
    intro c s
    obtain ⟨xs, rfl, h1, h3⟩ := s.fn_inv
    exact .fn _ _ xs (by omega) fun j hj => ih j (by omega) (h3 j (by omega))
  | @own b n hbn hn =>
    intro c s
    obtain ⟨h1, a, m, cap, rfl⟩ := s.own_inv
    exact .own n (by simp only [renβ, if_pos hn, hbn]; exact h1.symm)
  | @pre b n k hbn hn =>
    intro c s
    obtain ⟨a, m, cap, cap', h1, rfl, h2, h3⟩ := s.pre_inv
    exact .pre n k (by simp only [renβ, if_pos hn, hbn]; exact h1) h2 h3
  | @bp b n o hbn hn =>
    intro c s
    obtain ⟨g, h1, rfl⟩ := s.bp_inv
    exact .bp n o (by simp only [renβ, if_pos hn, hbn]; exact h1)
  | @ep b n sz i o hbn hn =>
    intro c s
    obtain ⟨g, m, cap, h1, rfl⟩ := s.ep_inv
    exact .ep n sz i o (by simp only [renβ, if_pos hn, hbn]; exact h1)

/-- The ghost step. -/
theorem Ghost.view {bs nx nx' : Nat} {S S' : AState} (ρ : Nat → Nat) (hd : Nat → Option Blk) (hbs : ∀ n, n < bs → ρ n = n ∧ n < nx')
    (hdd : ∀ b blk, hd b = some blk → bs = 0 ∧ S.h b = some blk ∧ ∀ n blk', S'.h n = some blk' → ρ n ≠ b)
    (ht : ∀ t, View hd ρ nx' (S.t t) (S'.t t)) (hh : ∀ n blk', S'.h n = some blk' → n < nx' ∧ ∃ blk, S.h (ρ n) = some blk ∧ BView hd ρ nx' blk blk')
    (hi : ∀ n m b b', S'.h n = some b → S'.h m = some b' → ρ n = ρ m → n = m) : Ghost bs nx S nx' S' := by
  intro E β a w hE s
  have hst : ∀ g, E.st w β S.h g → E.st w (renβ β ρ nx') S'.h g := by
    intro g ⟨h1, h2, h3⟩
    refine ⟨h1, h2, fun n b hb => ?_⟩
    obtain ⟨hn, blk, h4, _⟩ := hh n b hb
    simp only [renβ, if_pos hn]
    exact h3 _ _ h4
  have hbl : ∀ n b, hd n = some b → BlkRep (E.st w β S.h) β w b (β n) := fun n b hb => s.bl n b (hdd n b hb).2.1
  have hlv : ∀ n b g, hd n = some b → blkOf (β n) = some g → E.st w (renβ β ρ nx') S'.h g := by
    intro n b g hb hg
    obtain ⟨h0, h1, h2⟩ := hdd n b hb
    refine ⟨(s.bl n b h1).lt hg, ?_, fun m b' hm hg' => ?_⟩
    · rcases s.mine n b g h1 hg with h | h
      · exact absurd h (hE.2 h0 g)
      · exact .inr h
    · obtain ⟨hn, blk, h4, _⟩ := hh m b' hm
      simp only [renβ, if_pos hn] at hg'
      exact h2 m b' hm (s.inj _ _ _ _ g h4 h1 hg' hg)
  refine ⟨renβ β ρ nx', ⟨fun t => (ht t).sound hbl hst hlv (s.tm t), s.sz, s.df, fun n b hb => ?_, fun n m b b' g hb hb' hg hg' => ?_, fun n hn => ?_, fun n b g hb hg => ?_, s.os, s.tape, s.out, s.size, s.keep, fun n hn => ?_⟩⟩
  · obtain ⟨hn, blk, h4, h5⟩ := hh n b hb
    have hr := s.bl _ _ h4
    simp only [renβ, if_pos hn]
    cases h5 with
    | box hl hv =>
      obtain ⟨g, ty, xs, f1, f2, f3, f4, f5⟩ := hr
      exact ⟨g, ty, xs, f1, f2, by omega, f4, fun j hj => (hv j (by omega)).sound hbl hst hlv (f5 j (by omega))⟩
    | row es sz e =>
      obtain ⟨xs, f1, f2, f3, f4, f5⟩ := hr
      exact ⟨xs, f1, f2, f3, f4, fun i j hi hj => (f5 i j hi hj).mono fun g hg => ⟨hst g hg, rfl⟩⟩
    | iter q p => exact hr
  · obtain ⟨hn, blk, h4, _⟩ := hh n b hb
    obtain ⟨hm, blk', h5, _⟩ := hh m b' hb'
    simp only [renβ, if_pos hn, if_pos hm] at hg hg'
    exact hi n m b b' hb hb' (s.inj _ _ _ _ g h4 h5 hg hg')
  · simp only [renβ]; rw [if_neg (by omega)]
  · obtain ⟨hn, blk, h4, _⟩ := hh n b hb
    simp only [renβ, if_pos hn] at hg
    exact s.mine _ _ g h4 hg
  · have hb : n < bs := by
      rcases Nat.lt_or_ge n bs with h | h
      · exact h
      · exact absurd (hE.1 n h) hn
    obtain ⟨h1, h2⟩ := hbs n hb
    simp only [renβ, if_pos h2, h1]
    exact s.grow n hn

/-- A nil slice gets a name: a row without elements. -/
theorem Ghost.name {bs nx : Nat} {S : AState} (t sz : Nat) (e : TypeId) (ht : S.t t = .nils) (h0 : 0 < sz) : Ghost bs nx S (nx + 1) ⟨upd S.t t (.own nx), upd S.h nx (some (.row [] sz e))⟩ := by
  intro E β a w hE s
  have hv := s.tm t
  rw [ht] at hv
  obtain ⟨ad, hc⟩ := hv.nils_inv
  have hβ : β nx = undef := s.fresh nx (Nat.le_refl _)
  have hg : Grows β (upd β nx (.slice ad 0 0)) := fun n hn => by
    unfold upd; split
    · rename_i h; subst h; exact absurd hβ hn
    · rfl
  have hb0 : ∀ g, blkOf (Value.slice ad 0 0) ≠ some g := fun g => by cases ad <;> simp [blkOf]
  have hs := s.step (fr' := fun k => nx + 1 ≤ k) (S' := ⟨upd S.t t (.own nx), upd S.h nx (some (.row [] sz e))⟩) (β' := upd β nx (.slice ad 0 0)) (a' := a) (w' := w) (fun _ => False) (fun _ h => h.elim) rfl rfl rfl (Nat.le_refl _) (fun _ _ _ => rfl) hg
    (fun n hn => by unfold upd; rw [if_neg (by omega)]; exact s.fresh n (by omega)) (fun n b hb => ?_) ?_ rfl s.df (fun hst => fun q => ?_)
  · exact ⟨_, hs⟩
  · simp only [upd] at hb
    split at hb
    · rename_i h; subst h
      simp only [Option.some.injEq] at hb; subst hb
      refine .inr ⟨fun _ => ?_, fun g hg => by simp only [upd, if_true] at hg; exact absurd hg (hb0 g)⟩
      simp only [upd, if_true]
      exact ⟨[], by simp, h0, .inl ⟨ad, rfl, rfl, rfl⟩, by simp, fun i j hi => by simp at hi⟩
    · exact .inl ⟨hb, fun _ _ => id⟩
  · intro n m b1 b2 g h1 h2 g1 g2
    simp only [upd] at h1 h2 g1 g2
    by_cases e1 : n = nx
    · rw [if_pos e1] at g1; exact absurd g1 (hb0 g)
    · by_cases e2 : m = nx
      · rw [if_pos e2] at g2; exact absurd g2 (hb0 g)
      · simp only [if_neg e1, if_neg e2] at h1 h2 g1 g2
        exact s.inj n m b1 b2 g h1 h2 g1 g2
  · simp only [upd]
    by_cases hq : q = t
    · subst hq
      rw [if_pos rfl, hc]
      exact .own nx (by simp [upd])
    · rw [if_neg hq]
      exact (s.tm q).mono hg hst

end Go.Ab
end
section
set_option linter.unusedVariables false
set_option linter.unusedSimpArgs false
namespace Go.Ab
open Go.RowKit

structure Keeps (w w' : World) : Prop where
  os : w'.os = w.os
  tape : w'.tape = w.tape
  out : w'.output = w.output
  size : w.heap.size ≤ w'.heap.size
  heap : ∀ g, g < w.heap.size → w'.heap[g]? = w.heap[g]?

def PArgs (ok : Nat → Prop) (w : World) (args : List AV) (cs : List Value) : Prop :=
  args.length = cs.length ∧ ∀ j, j < args.length → PureV (fun g => g < w.heap.size ∧ ok g) w (av args j) (cv cs j)

/-- Called with what reads as 'args' it returns what reads as 'r', and turns nothing that was there. -/
def Pure (P : Program) (f : FuncId) (args : List AV) (r : AV) : Prop :=
  Callable P f ∧ ∀ (ok : Nat → Prop) (w : World) (cs : List Value), PArgs ok w args cs →
    Calls P f cs.toArray w fun e w' => ∃ c, e = .returned c ∧ Keeps w w' ∧ PureV (fun g => g < w'.heap.size ∧ (ok g ∨ w.heap.size ≤ g)) w' r c

/-- The same; what it returns is a slice that owns a new row. -/
def PureOwn (P : Program) (f : FuncId) (args : List AV) (es : List (List AV)) (sz : Nat) (ty : TypeId) : Prop :=
  Callable P f ∧ ∀ (ok : Nat → Prop) (w : World) (cs : List Value), PArgs ok w args cs →
    Calls P f cs.toArray w fun e w' => ∃ c, e = .returned c ∧ Keeps w w' ∧ (∃ a n cap, c = .slice a n cap) ∧ (∃ xs, RowFits (fun g => g < w'.heap.size ∧ (ok g ∨ w.heap.size ≤ g) ∧ blkOf c ≠ some g) w' es sz ty c xs) ∧ ∀ g, blkOf c = some g → w.heap.size ≤ g

/-- No memory in it. -/
inductive Dry : AV → Prop
  | v (x) : Dry (.v x)
  | any : Dry .any
  | nils : Dry .nils
  | slE : Dry (.sl [])
  | agg {cs} (h : ∀ c ∈ cs, Dry c) : Dry (.agg cs)
  | tup {cs} (h : ∀ c ∈ cs, Dry c) : Dry (.tup cs)

theorem av_mem {cs : List AV} {j : Nat} (h : j < cs.length) : av cs j ∈ cs := by simp [av, List.getD_eq_getElem?_getD, h]

theorem Dry.mono {st st' : Nat → Prop} {w : World} {x : AV} (d : Dry x) : ∀ {c}, PureV st w x c → PureV st' w x c := by
  induction d with
  | v x => intro c p; cases p; exact .v _
  | any => intro c p; exact .any _
  | nils => intro c p; cases p; exact .nils _
  | slE =>
    intro c p
    cases p with
    | slE a cap hc => exact .slE a cap hc
    | slC es g off cap sz f hc hm h0 hne => exact absurd rfl hne
  | agg h ih => intro c p; cases p with | agg cs xs hl h1 hr => exact .agg _ xs hl h1 fun j hj => ih _ (av_mem hj) (hr j hj)
  | tup h ih => intro c p; cases p with | tup cs xs hl hr => exact .tup _ xs hl fun j hj => ih _ (av_mem hj) (hr j hj)

section use
variable {P : Program} {f : FuncId} {args args' : List AV} {hl : List (Nat × Blk)} {nm : Nat}

theorem lower_args {prov : Nat → Prop} {β : Nat → Value} {w : World} {cs : List Value} (hb : ∀ n b, listH hl n = some b → BlkRep (stb prov w β (listH hl)) β w b (β n)) (hv : Vals (stb prov w β (listH hl)) β w args cs)
    (hlen : args.length = args'.length) (hlow : ∀ j, j < args.length → Lower (listH hl) (av args j) (av args' j)) : PArgs (fun g => prov g ∨ ∃ n b, listH hl n = some b ∧ blkOf (β n) = some g) w args' cs := by
  refine ⟨by rw [← hlen]; exact hv.1, fun j hj => ?_⟩
  refine (hlow j (by omega)).sound hb (fun g hg => ⟨hg.1, .inl hg.2.1⟩) (fun n b g h1 h2 => ⟨(hb n b h1).lt h2, .inr ⟨n, b, h1, h2⟩⟩) (hv.2 j (by omega))

/-- Use of a contract at a call. -/
theorem CallC.pure {r : AV} (h : Pure P f args' r) (hlen : args.length = args'.length) (hlow : ∀ j, j < args.length → Lower (listH hl) (av args j) (av args' j)) (hd : hl = [] ∨ Dry r) : CallC P f args hl nm r [] := by
  refine ⟨h.1, fun prov β w cs hn hb hi hv => ?_⟩
  refine (h.2 _ w cs (lower_args hb hv hlen hlow)).mono fun e w' ⟨c, he, hk, hp⟩ => ⟨c, β, he, hk.os, hk.tape, hk.out, hk.size, Grows.refl _, fun _ _ => rfl, fun g hg _ => hk.heap g hg, .pure ?_, fun n b _ hm => by simp at hm, hi⟩
  rcases hd with rfl | hd
  · exact hp.mono fun g ⟨h1, h2⟩ => ⟨⟨h1, h2.imp (fun h => h.elim id fun ⟨n, b, h3, _⟩ => by simp [listH] at h3) id, fun n b hb' => by simp [updL, listH] at hb'⟩, rfl⟩
  · exact hd.mono hp

theorem CallC.own {es : List (List AV)} {sz : Nat} {ty : TypeId} (h : PureOwn P f args' es sz ty) (hlen : args.length = args'.length) (hlow : ∀ j, j < args.length → Lower (listH hl) (av args j) (av args' j)) (hnm : nm ∉ hl.map (·.1)) (hd : hl = [] ∨ ∀ y ∈ es, ∀ c ∈ y, Dry c) :
    CallC P f args hl nm (.own nm) [(nm, some (.row es sz ty))] := by
  refine ⟨h.1, fun prov β w cs hn hb hi hv => ?_⟩
  refine (h.2 _ w cs (lower_args hb hv hlen hlow)).mono fun e w' ⟨c, he, hk, ⟨a, m, cap, hc⟩, ⟨xs, hf⟩, hnew⟩ => ?_
  have hg : Grows β (upd β nm c) := fun k hk => by
    unfold upd; split
    · rename_i h; subst h; exact absurd hn hk
    · rfl
  have hlk : ∀ n, updL (listH hl) [(nm, some (Blk.row es sz ty))] n = if n = nm then some (.row es sz ty) else listH hl n := fun n => rfl
  have hne : ∀ n b, listH hl n = some b → n ≠ nm := fun n b h e => hnm (by subst e; exact List.mem_map.2 ⟨_, listH_mem h, rfl⟩)
  refine ⟨c, upd β nm c, he, hk.os, hk.tape, hk.out, hk.size, hg, fun n hn' => by simp [upd, hn'], fun g hg _ => hk.heap g hg, ?_, fun n b hb' hm => ?_, ?_⟩
  · subst hc; exact .own nm (by simp [upd])
  · have hm' : n = nm := by simpa using hm
    rw [hm'] at hb' ⊢
    rw [hlk, if_pos rfl] at hb'
    simp at hb'
    subst hb'
    simp only [upd, if_true]
    refine ⟨⟨xs, hf.z, hf.pos, hf.row, hf.one, fun i j hi' hj => ?_⟩, fun g hg => .inl (hnew g hg)⟩
    have hp := hf.cell i j hi' hj
    rcases hd with rfl | hd
    · refine hp.mono fun g ⟨h1, h2, h3⟩ => ⟨⟨h1, h2.imp (fun h => h.elim id fun ⟨n, b, h3, _⟩ => by simp [listH] at h3) id, fun n b hb' => ?_⟩, rfl⟩
      rw [hlk] at hb'
      by_cases hnn : n = nm
      · rw [hnn]; simp only [upd, if_true]; exact h3
      · rw [if_neg hnn] at hb'; simp [listH] at hb'
    · have hel : es.getD i [] ∈ es := by simp [List.getD_eq_getElem?_getD, hi']
      exact (hd _ hel _ (av_mem (by rw [hf.z _ hel]; exact hj))).mono hp
  · intro n m b b' g h1 h2 g1 g2
    rw [hlk] at h1 h2
    by_cases e1 : n = nm <;> by_cases e2 : m = nm
    · rw [e1, e2]
    · rw [if_neg e2] at h2
      simp only [upd, if_pos e1, if_neg e2] at g1 g2
      have := hnew g g1
      have := (hb m b' h2).lt g2
      omega
    · rw [if_neg e1] at h1
      simp only [upd, if_neg e1, if_pos e2] at g1 g2
      have := hnew g g2
      have := (hb n b h1).lt g1
      omega
    · rw [if_neg e1] at h1
      rw [if_neg e2] at h2
      simp only [upd, if_neg e1, if_neg e2] at g1 g2
      exact hi n m b b' g h1 h2 g1 g2
end use

/-! ### A function -/

/-- A result, read off the frame. -/
def resE (P : Program) (S : AState) : ResultVar → Eff
  | .tmp t => .ret (S.t t)
  | .cell a t => effLoad S.h (P.cellsOf t) (isAggB P t) (S.t a)
def resOk (P : Program) : ResultVar → Bool
  | .tmp _ => true
  | .cell _ t => (P.info? t).isSome && (P.underlying t).isSome && (isAggB P t || P.cellsOf t == 1)
def resV (l : List AV) : AV := match l with
  | [x] => x
  | l => .tup l

section fn
variable {P : Program} {E : Entry} {fr : Nat → Prop} {S : AState} {β : Nat → Value} {a : Act} {w : World}

theorem res_one (s : Sim E fr S β a w) (r : ResultVar) (hr : resOk P r = true) (side : (resE P S r).side) :
    ∃ c, ((match r with | .tmp t => pure (a.tmps.getD t undef) | .cell a' t => do loadVar t (← asAddr (a.tmps.getD a' undef)) : Sem Value)).run P w = .ok c w ∧ SimV (E.st w β S.h) β w (resE P S r).val c := by
  cases r with
  | tmp t => exact ⟨_, rfl, s.tm t⟩
  | cell ad t =>
    simp only [resOk, Bool.and_eq_true, Bool.or_eq_true, beq_iff_eq, Option.isSome_iff_exists] at hr
    obtain ⟨⟨⟨i, hi⟩, ⟨d, hu⟩⟩, ha⟩ := hr
    have hsz : P.cellsOf t = i.size := by simp [Program.cellsOf, hi]
    rw [hsz] at ha
    have hszE : resE P S (.cell ad t) = effLoad S.h i.size (isAggB P t) (S.t ad) := by simp only [resE, hsz]
    rw [hszE] at side ⊢
    obtain ⟨v, p, hp, h1, h2⟩ := load_run s hi hu ha (s.tm ad) side
    refine ⟨v, ?_, h2⟩
    simp only [hp]
    rw [hp] at h1
    simpa [Instr.loadAt, Instr.sureAddr, asAddr] using h1

def resSide (P : Program) (S : AState) : List ResultVar → Prop
  | [] => True
  | r :: l => (resE P S r).side ∧ resSide P S l
def resVals (P : Program) (S : AState) (l : List ResultVar) : List AV := l.map fun r => (resE P S r).val

theorem res_all (s : Sim E fr S β a w) : ∀ (l : List ResultVar), l.all (resOk P) = true → resSide P S l → ∃ cs : List Value,
    (l.mapM fun r => (match r with | .tmp t => pure (a.tmps.getD t undef) | .cell a' t => do loadVar t (← asAddr (a.tmps.getD a' undef)) : Sem Value)).run P w = .ok cs w ∧ Vals (E.st w β S.h) β w (resVals P S l) cs
  | [], _, _ => ⟨[], by simp, rfl, fun j hj => by simp [resVals] at hj⟩
  | r :: l, hok, hs => by
    simp only [List.all_cons, Bool.and_eq_true] at hok
    obtain ⟨c, h1, h2⟩ := res_one s r hok.1 hs.1
    obtain ⟨cs, h3, h4, h5⟩ := res_all s l hok.2 hs.2
    refine ⟨c :: cs, ?_, by simp [resVals] at h4 ⊢; exact h4, fun j hj => ?_⟩
    · simp only [List.mapM_cons, Sem.run_bind, h1, Result.andThen_ok, h3, Sem.run_pure]
    · cases j with
      | zero => simpa [av, cv, resVals] using h2
      | succ j =>
        have := h5 j (by simp [resVals] at hj ⊢; exact hj)
        simpa [av, cv, resVals] using this

theorem results_run (s : Sim E fr S β a w) {f : Func} (hok : f.results.toList.all (resOk P) = true) (hs : resSide P S f.results.toList) : ∃ c, (results f a.tmps).run P w = .ok c w ∧ SimV (E.st w β S.h) β w (resV (resVals P S f.results.toList)) c := by
  obtain ⟨cs, h1, h2, h3⟩ := res_all (P := P) s f.results.toList hok hs
  have hm : (f.results.mapM fun r => (match r with | .tmp t => pure (a.tmps.getD t undef) | .cell a' t => do loadVar t (← asAddr (a.tmps.getD a' undef)) : Sem Value)).run P w = .ok cs.toArray w := by
    rw [← Array.toArray_toList (xs := f.results), List.mapM_toArray]
    simp only [map_eq_pure_bind, Sem.run_bind, h1, Result.andThen_ok, Sem.run_pure]
  refine ⟨if h : cs.toArray.size = 1 then cs.toArray[0] else .tuple cs.toArray, ?_, ?_⟩
  · unfold results
    rw [Sem.run_bind]
    exact (congrArg (fun r => Result.andThen r fun (vs : Array Value) w' => Sem.run P (Pure.pure (if h : vs.size = 1 then vs[0] else Value.tuple vs)) w') hm)
  · match cs, h2, h3 with
    | [c], h2, h3 =>
      match hrv : resVals P S f.results.toList, h2, h3 with
      | [x], h2, h3 => simpa [resV, av, cv] using h3 0 (by simp)
    | [], h2, h3 =>
      match hrv : resVals P S f.results.toList, h2, h3 with
      | [], h2, h3 => exact .tup [] [] rfl (fun j hj => by simp at hj)
    | c :: d :: r, h2, h3 =>
      match hrv : resVals P S f.results.toList, h2, h3 with
      | x :: y :: q, h2, h3 => exact .tup _ (c :: d :: r) h2 h3
end fn

/-- What is asked of a function's text: closed, by the kernel. -/
structure FnFacts (P : Program) (f : FuncId) (fn : Func) (ac : ACode) (n : Nat) (rs : List ResultVar) : Prop where
  at_ : P.funcs[f]? = some fn
  nt : fn.ntmps = n
  rseq : fn.results.toList = rs
  name : (fn.name == "runtime.NumGoroutine") = false
  comp : fn.body.bind (compCode P) = some ac
  ok : ac.ok n = true
  mixed : P.follows .mixedOrders = true
  res : rs.all (resOk P) = true

theorem FnFacts.code {P : Program} {f : FuncId} {fn : Func} {ac : ACode} {n : Nat} {rs : List ResultVar} (h : FnFacts P f fn ac n rs) : ∃ code, fn.body = some code ∧ compCode P code = some ac := by
  have := h.comp
  simpa [Option.bind_eq_some_iff] using this
theorem FnFacts.callable {P : Program} {f : FuncId} {fn : Func} {ac : ACode} {n : Nat} {rs : List ResultVar} (h : FnFacts P f fn ac n rs) : Callable P f := by
  obtain ⟨code, h1, _⟩ := h.code
  exact ⟨fn, h.at_, by rw [h1]; rfl, h.name⟩

/-- A function's first state. -/
def S0 (args : List AV) : AState := ⟨av args, fun _ => none⟩

theorem sim_start {args : List AV} {cs : List Value} {ok : Nat → Prop} {w : World} (h : PArgs ok w args cs) (n : Nat) (hn : args.length ≤ n) :
    Sim { w0 := w, β0 := fun _ => undef, prov := ok, may := fun _ => False, n := n } (fun k => 0 ≤ k) (S0 args) (fun _ => undef) { tmps := cs.toArray ++ Array.replicate (n - cs.toArray.size) undef, defers := [] } w := by
  refine ⟨fun t => ?_, ?_, rfl, fun n b hb => by simp [S0] at hb, fun n m b b' g hb => by simp [S0] at hb, fun _ _ => rfl, fun n b g hb => by simp [S0] at hb, rfl, rfl, rfl, Nat.le_refl _, fun _ _ _ => rfl, Grows.refl _⟩
  · by_cases ht : t < args.length
    · have h1 := h.2 t ht
      have e : (cs.toArray ++ Array.replicate (n - cs.toArray.size) undef).getD t undef = cv cs t := by
        have hl : t < cs.length := by rw [← h.1]; exact ht
        rw [Array.getD_eq_getD_getElem?, Array.getElem?_append_left (by simpa using hl)]
        simp [cv, List.getD_eq_getElem?_getD]
      rw [e]
      exact .pure (h1.mono fun g hg => ⟨⟨hg.1, .inl hg.2, fun n b hb => by simp [S0] at hb⟩, rfl⟩)
    · have : (S0 args).t t = .any := by simp [S0, av, List.getD_eq_getElem?_getD, Nat.le_of_not_lt ht]
      rw [this]
      exact .pure (.any _)
  · have := h.1
    simp
    omega

section fns
variable {P : Program} {f : FuncId} {fn : Func} {ac : ACode} {n : Nat} {rs : List ResultVar} {args : List AV}

/-- A contract, out of the rules. -/
theorem fn_pure (F : FnFacts P f fn ac n rs) (hn : args.length ≤ n) {r : AV} (h : Awp P n 0 ac 0 (S0 args) fun e _ S => (e = .normal ∨ e = .ret) ∧ resSide P S rs ∧ Lower S.h (resV (resVals P S rs)) r) :
    Pure P f args r := by
  obtain ⟨code, hbody, hcomp⟩ := F.code
  refine ⟨F.callable, fun ok w cs ha => ?_⟩
  refine calls_of_wp F.at_ hbody ?_
  rw [F.nt]
  have s0 := sim_start ha n hn
  refine h code hcomp F.ok F.mixed { w0 := w, β0 := fun _ => undef, prov := ok, may := fun _ => False, n := n } _ _ w rfl ⟨fun _ _ => rfl, fun _ _ h => h⟩ s0 _ fun e nx S β a w' ⟨he, hs, hl⟩ s => ?_
  obtain ⟨c, hc, hv⟩ := results_run (f := fn) s (by rw [F.rseq]; exact F.res) (by rw [F.rseq]; exact hs)
  rw [F.rseq] at hv
  have fin : a.defers = [] ∧ ∃ v, (results fn a.tmps).run P w' = .ok v w' ∧ ∃ c, Ending.returned v = .returned c ∧ Keeps w w' ∧ PureV (fun g => g < w'.heap.size ∧ (ok g ∨ w.heap.size ≤ g)) w' r c := by
    refine ⟨s.df, c, hc, c, rfl, ⟨s.os, s.tape, s.out, s.size, fun g hg => s.keep g hg id⟩, ?_⟩
    refine hl.sound (β := β) s.bl (fun g hg => ⟨hg.1, hg.2.1⟩) (fun n b g hb hg => ⟨(s.bl n b hb).lt hg, ?_⟩) hv
    rcases s.mine n b g hb hg with h | h
    · exact h.elim
    · exact .inr h
  rcases he with rfl | rfl <;> exact fin

/-- The same, where the result is a slice that owns its row. -/
theorem fn_own (F : FnFacts P f fn ac n rs) (hn : args.length ≤ n) {es : List (List AV)} {sz : Nat} {ty : TypeId}
    (h : Awp P n 0 ac 0 (S0 args) fun e _ S => (e = .normal ∨ e = .ret) ∧ resSide P S rs ∧ ∃ b, resV (resVals P S rs) = .own b ∧ S.h b = some (.row es sz ty)) : PureOwn P f args es sz ty := by
  obtain ⟨code, hbody, hcomp⟩ := F.code
  refine ⟨F.callable, fun ok w cs ha => ?_⟩
  refine calls_of_wp F.at_ hbody ?_
  rw [F.nt]
  have s0 := sim_start ha n hn
  refine h code hcomp F.ok F.mixed { w0 := w, β0 := fun _ => undef, prov := ok, may := fun _ => False, n := n } _ _ w rfl ⟨fun _ _ => rfl, fun _ _ h => h⟩ s0 _ fun e nx S β a w' ⟨he, hs, b, hb, hB⟩ s => ?_
  obtain ⟨c, hc, hv⟩ := results_run (f := fn) s (by rw [F.rseq]; exact F.res) (by rw [F.rseq]; exact hs)
  rw [F.rseq] at hv
  rw [hb] at hv
  obtain ⟨hcβ, ad, m, cap, hcs⟩ := hv.own_inv
  have fin : a.defers = [] ∧ ∃ v, (results fn a.tmps).run P w' = .ok v w' ∧ ∃ c, Ending.returned v = .returned c ∧ Keeps w w' ∧ (∃ a n cap, c = .slice a n cap) ∧
      (∃ xs, RowFits (fun g => g < w'.heap.size ∧ (ok g ∨ w.heap.size ≤ g) ∧ blkOf c ≠ some g) w' es sz ty c xs) ∧ ∀ g, blkOf c = some g → w.heap.size ≤ g := by
    refine ⟨s.df, c, hc, c, rfl, ⟨s.os, s.tape, s.out, s.size, fun g hg => s.keep g hg id⟩, ⟨_, _, _, hcs⟩, ?_, fun g hg => ?_⟩
    · obtain ⟨xs, hf⟩ := s.bl b _ hB
      rw [← hcβ] at hf
      exact ⟨xs, hf.z, hf.pos, hf.row, hf.one, fun i j hi hj => (hf.cell i j hi hj).mono fun g hg => ⟨⟨hg.1, hg.2.1, by rw [hcβ]; exact hg.2.2 b _ hB⟩, rfl⟩⟩
    · rw [hcβ] at hg
      rcases s.mine b _ g hB hg with h | h
      · exact h.elim
      · exact h
  rcases he with rfl | rfl <;> exact fin
end fns

end Go.Ab
end
section
set_option linter.unusedVariables false
set_option linter.unusedSimpArgs false
namespace Go.Ab
open Go.RowKit

@[go_sem] theorem putT_same (f : Nat → AV) (d : Nat) (x : AV) : putT f (some d) x d = x := by simp [putT, upd]
@[go_sem] theorem putT_ne (f : Nat → AV) (d t : Nat) (x : AV) (h : t ≠ d) : putT f (some d) x t = f t := by simp [putT, upd, h]
@[go_sem] theorem putT_none (f : Nat → AV) (x : AV) : putT f none x = f := rfl
@[go_sem] theorem upd_same {α : Type} (f : Nat → α) (d : Nat) (x : α) : upd f d x d = x := by simp [upd]
@[go_sem] theorem upd_ne {α : Type} (f : Nat → α) (d t : Nat) (x : α) (h : t ≠ d) : upd f d x t = f t := by simp [upd, h]
@[go_sem] theorem updL_nil {α : Type} (f : Nat → α) : updL f [] = f := rfl
@[go_sem] theorem updL_cons {α : Type} (f : Nat → α) (k : Nat) (x : α) (r : List (Nat × α)) : updL f ((k, x) :: r) = updL (upd f k x) r := rfl
@[go_sem] theorem S0_t (args : List AV) (n : Nat) : (S0 args).t n = av args n := rfl
@[go_sem] theorem S0_h (args : List AV) (n : Nat) : (S0 args).h n = none := rfl
@[go_sem] theorem av_zero (x : AV) (l : List AV) : av (x :: l) 0 = x := rfl
@[go_sem] theorem av_succ (x : AV) (l : List AV) (n : Nat) : av (x :: l) (n + 1) = av l n := rfl
@[go_sem] theorem av_nil (n : Nat) : av [] n = .any := rfl
@[go_sem] theorem mkS_t (ts : List (Nat × AV)) (hs : List (Nat × Blk)) : (mkS ts hs).t = lk .any ts := rfl
@[go_sem] theorem mkS_h (ts : List (Nat × AV)) (hs : List (Nat × Blk)) : (mkS ts hs).h = listH hs := rfl
@[go_sem] theorem lk_same {α : Type} (d : α) (k : Nat) (x : α) (r : List (Nat × α)) : lk d ((k, x) :: r) k = x := by simp [lk]
@[go_sem] theorem lk_ne {α : Type} (d : α) (k n : Nat) (x : α) (r : List (Nat × α)) (h : n ≠ k) : lk d ((k, x) :: r) n = lk d r n := by simp [lk, h]
@[go_sem] theorem lk_nil {α : Type} (d : α) (n : Nat) : lk d [] n = d := rfl
@[go_sem] theorem listH_same (k : Nat) (x : Blk) (r : List (Nat × Blk)) : listH ((k, x) :: r) k = some x := by simp [listH]
@[go_sem] theorem listH_ne (k n : Nat) (x : Blk) (r : List (Nat × Blk)) (h : n ≠ k) : listH ((k, x) :: r) n = listH r n := by simp [listH, h]
@[go_sem] theorem listH_nil (n : Nat) : listH [] n = none := rfl
@[go_sem] theorem app_mk (t : Nat → AV) (h : Nat → Option Blk) (d : Option Nat) (p : Prop) (v : AV) (u : Upd) (r : List Nat) : AState.app ⟨t, h⟩ d ⟨p, v, u, r⟩ = ⟨putT t d v, updL h u⟩ := rfl
@[go_sem] theorem app_S0 (args : List AV) (d : Option Nat) (p : Prop) (v : AV) (u : Upd) (r : List Nat) : AState.app (S0 args) d ⟨p, v, u, r⟩ = ⟨putT (av args) d v, updL (fun _ => none) u⟩ := rfl
@[go_sem] theorem app_mkS (ts : List (Nat × AV)) (hs : List (Nat × Blk)) (d : Option Nat) (p : Prop) (v : AV) (u : Upd) (r : List Nat) : AState.app (mkS ts hs) d ⟨p, v, u, r⟩ = ⟨putT (lk .any ts) d v, updL (listH hs) u⟩ := rfl
@[go_sem] theorem put_mk (t : Nat → AV) (h : Nat → Option Blk) (d : Option Nat) (v : AV) : AState.put ⟨t, h⟩ d v = ⟨putT t d v, h⟩ := rfl
@[go_sem] theorem evo_t (S : AState) (n : Nat) : evo S (.t n) = S.t n := rfl
@[go_sem] theorem evo_f (S : AState) (n : Nat) : evo S (.f n) = .fn n [] := rfl
@[go_sem] theorem evo_int (S : AState) (k : IntKind) (n : Int) : evo S (.c (.int k n)) = .v (.int k n) := rfl
@[go_sem] theorem evo_bool (S : AState) (b : Bool) : evo S (.c (.bool b)) = .v (.bool b) := rfl
@[go_sem] theorem evo_str (S : AState) (b : ByteArray) : evo S (.c (.string b)) = .v (.string b) := rfl
@[go_sem] theorem evo_nil (S : AState) : evo S (.c (.slice none 0 0)) = .nils := rfl
@[go_sem] theorem ofV_int (k : IntKind) (n : Int) : AV.ofV (.int k n) = .v (.int k n) := rfl
@[go_sem] theorem ofV_bool (b : Bool) : AV.ofV (.bool b) = .v (.bool b) := rfl
@[go_sem] theorem ofV_str (b : ByteArray) : AV.ofV (.string b) = .v (.string b) := rfl
@[go_sem] theorem ofV_nil : AV.ofV (.slice none 0 0) = .nils := rfl

/-- A guard, its value known. -/
def gval (x : AV) (want : Bool) (X Y : Prop) : Prop :=
  match x with
  | .v (.bool b) => (b = want → X) ∧ (b = (!want) → Y)
  | .tup [] => Y
  | _ => False
@[go_sem] theorem gval_tt (X Y : Prop) : gval (.v (.bool true)) true X Y = X := by simp [gval]
@[go_sem] theorem gval_tf (X Y : Prop) : gval (.v (.bool true)) false X Y = Y := by simp [gval]
@[go_sem] theorem gval_ft (X Y : Prop) : gval (.v (.bool false)) true X Y = Y := by simp [gval]
@[go_sem] theorem gval_ff (X Y : Prop) : gval (.v (.bool false)) false X Y = X := by simp [gval]
@[go_sem] theorem gval_u (want : Bool) (X Y : Prop) : gval (.tup []) want X Y = Y := rfl
theorem gval_intro {b want : Bool} {X Y : Prop} (h1 : b = want → X) (h2 : b = (!want) → Y) : gval (.v (.bool b)) want X Y := ⟨h1, h2⟩

@[go_sem] theorem aops_nil (P : Program) (nm : Nat) (S : AState) (K : AState → Prop) : aops P [] nm S K = K S := rfl
/-- An operation that is a call: simp stops here. -/
def aopsC (P : Program) (o : AOper) (r : List AOper) (nm : Nat) (S : AState) (K : AState → Prop) : Prop := aops P (o :: r) nm S K
def bcase (b : Bool) (X Y : Prop) : Prop := if b then X else Y
@[go_sem] theorem bcase_t (X Y : Prop) : bcase true X Y = X := rfl
@[go_sem] theorem bcase_f (X Y : Prop) : bcase false X Y = Y := rfl
@[go_sem] theorem aops_op (P : Program) (d : Option Nat) (op : AOp) (deps : List Nat) (r : List AOper) (nm : Nat) (S : AState) (K : AState → Prop) :
    aops P (⟨d, op, none, deps⟩ :: r) nm S K = bcase op.choosy (aopsC P ⟨d, op, none, deps⟩ r nm S K) ((op.eff P nm S default).side ∧ aops P r (nm + 1) (S.app d (op.eff P nm S default)) K) := by
  cases h : op.choosy
  · simp [bcase, aops, gcase, astep, h]
  · simp [bcase, aopsC]
@[go_sem] theorem aops_g (P : Program) (d : Option Nat) (op : AOp) (t : Nat) (want : Bool) (deps : List Nat) (r : List AOper) (nm : Nat) (S : AState) (K : AState → Prop) :
    aops P (⟨d, op, some (t, want), deps⟩ :: r) nm S K = gval (S.t t) want (aops P (⟨d, op, none, deps⟩ :: r) nm S K) (aops P r (nm + 1) (S.put d (.tup [])) K) := rfl
theorem aops_call {P : Program} {d : Option Nat} {op : AOp} {deps : List Nat} {r : List AOper} {nm : Nat} {S : AState} {K : AState → Prop} (an : Ans) (h : op.choosy = true) (hs : (op.eff P nm S an).side) (hk : aops P r (nm + 1) (S.app d (op.eff P nm S an)) K) :
    aopsC P ⟨d, op, none, deps⟩ r nm S K := by
  simp only [aopsC, aops, gcase, astep, h, if_true]
  exact ⟨an, hs, hk⟩

@[go_sem] theorem aopsL_nil (P : Program) (nm : Nat) (S : AState) (l : List Ent) (K : AState → List Ent → Prop) : aopsL P [] nm S l K = K S l := rfl
def aopsLC (P : Program) (o : AOper) (r : List AOper) (nm : Nat) (S : AState) (l : List Ent) (K : AState → List Ent → Prop) : Prop := aopsL P (o :: r) nm S l K
@[go_sem] theorem aopsL_op (P : Program) (d : Option Nat) (op : AOp) (deps : List Nat) (r : List AOper) (nm : Nat) (S : AState) (l : List Ent) (K : AState → List Ent → Prop) :
    aopsL P (⟨d, op, none, deps⟩ :: r) nm S l K = bcase op.choosy (aopsLC P ⟨d, op, none, deps⟩ r nm S l K) ((op.eff P nm S default).side ∧ aopsL P r (nm + 1) (S.app d (op.eff P nm S default)) (l ++ [⟨op.temps, (op.eff P nm S default).rd, d, (op.eff P nm S default).ups.map (·.1)⟩]) K) := by
  cases h : op.choosy
  · simp [bcase, aopsL, gcase, astepL, h, ent, gtemps]
  · simp [bcase, aopsLC]
@[go_sem] theorem aopsL_g (P : Program) (d : Option Nat) (op : AOp) (t : Nat) (want : Bool) (deps : List Nat) (r : List AOper) (nm : Nat) (S : AState) (l : List Ent) (K : AState → List Ent → Prop) :
    aopsL P (⟨d, op, some (t, want), deps⟩ :: r) nm S l K = bcase op.choosy (aopsLC P ⟨d, op, some (t, want), deps⟩ r nm S l K) (gval (S.t t) want ((op.eff P nm S default).side ∧ aopsL P r (nm + 1) (S.app d (op.eff P nm S default)) (l ++ [⟨t :: op.temps, (op.eff P nm S default).rd, d, (op.eff P nm S default).ups.map (·.1)⟩]) K)
      (aopsL P r (nm + 1) (S.put d (.tup [])) (l ++ [⟨[t], [], d, []⟩]) K)) := by
  cases h : op.choosy
  · have h1 : astepL P ⟨d, op, some (t, want), deps⟩ nm S (fun S' e => aopsL P r (nm + 1) S' (l ++ [e]) K) = ((op.eff P nm S default).side ∧ aopsL P r (nm + 1) (S.app d (op.eff P nm S default)) (l ++ [⟨t :: op.temps, (op.eff P nm S default).rd, d, (op.eff P nm S default).ups.map (·.1)⟩]) K) := by
      simp [astepL, h, ent, gtemps]
    show gcase (some (t, want)) S (astepL P ⟨d, op, some (t, want), deps⟩ nm S (fun S' e => aopsL P r (nm + 1) S' (l ++ [e]) K)) _ = _
    rw [h1]
    rfl
  · simp [bcase, aopsLC]
theorem aopsL_call {P : Program} {d : Option Nat} {op : AOp} {deps : List Nat} {r : List AOper} {nm : Nat} {S : AState} {l : List Ent} {K : AState → List Ent → Prop} (an : Ans) (h : op.choosy = true) (hs : (op.eff P nm S an).side)
    (hk : aopsL P r (nm + 1) (S.app d (op.eff P nm S an)) (l ++ [⟨op.temps, (op.eff P nm S an).rd, d, (op.eff P nm S an).ups.map (·.1)⟩]) K) :
    aopsLC P ⟨d, op, none, deps⟩ r nm S l K := by
  simp only [aopsLC, aopsL, gcase, astepL, h, if_true, ent, gtemps]
  exact ⟨an, hs, hk⟩
theorem aopsL_callg {P : Program} {d : Option Nat} {op : AOp} {t : Nat} {want : Bool} {deps : List Nat} {r : List AOper} {nm : Nat} {S : AState} {l : List Ent} {K : AState → List Ent → Prop} (h : op.choosy = true)
    (hk : gval (S.t t) want (∃ an, (op.eff P nm S an).side ∧ aopsL P r (nm + 1) (S.app d (op.eff P nm S an)) (l ++ [⟨t :: op.temps, (op.eff P nm S an).rd, d, (op.eff P nm S an).ups.map (·.1)⟩]) K) (aopsL P r (nm + 1) (S.put d (.tup [])) (l ++ [⟨[t], [], d, []⟩]) K)) :
    aopsLC P ⟨d, op, some (t, want), deps⟩ r nm S l K := by
  have h1 : astepL P ⟨d, op, some (t, want), deps⟩ nm S (fun S' e => aopsL P r (nm + 1) S' (l ++ [e]) K) = (∃ an, (op.eff P nm S an).side ∧ aopsL P r (nm + 1) (S.app d (op.eff P nm S an)) (l ++ [⟨t :: op.temps, (op.eff P nm S an).rd, d, (op.eff P nm S an).ups.map (·.1)⟩]) K) := by
    simp [astepL, h, ent, gtemps]
  show gcase (some (t, want)) S (astepL P ⟨d, op, some (t, want), deps⟩ nm S (fun S' e => aopsL P r (nm + 1) S' (l ++ [e]) K)) _
  rw [h1]
  exact hk

attribute [go_sem] AOp.choosy AOp.isCall AOp.eff Eff.ret Eff.iff

section eff
variable (k : IntKind) (a b : Int) (s s' : ByteArray)
@[go_sem] theorem bin_add : effBin .add (.v (.int k a)) (.v (.int k b)) = ⟨True, .v (.int k (k.wrap (a + b))), [], []⟩ := by simp [effBin, binE, Eff.iff]
@[go_sem] theorem bin_sub : effBin .sub (.v (.int k a)) (.v (.int k b)) = ⟨True, .v (.int k (k.wrap (a - b))), [], []⟩ := by simp [effBin, binE, Eff.iff]
@[go_sem] theorem bin_mul : effBin .mul (.v (.int k a)) (.v (.int k b)) = ⟨True, .v (.int k (k.wrap (a * b))), [], []⟩ := by simp [effBin, binE, Eff.iff]
@[go_sem] theorem bin_quo : effBin .quo (.v (.int k a)) (.v (.int k b)) = ⟨b ≠ 0, .v (.int k (k.wrap (a.tdiv b))), [], []⟩ := by simp [effBin, binE, Eff.iff]
@[go_sem] theorem bin_rem : effBin .rem (.v (.int k a)) (.v (.int k b)) = ⟨b ≠ 0, .v (.int k (a.tmod b)), [], []⟩ := by simp [effBin, binE, Eff.iff]
@[go_sem] theorem bin_eql : effBin .eql (.v (.int k a)) (.v (.int k b)) = ⟨True, .v (.bool (a == b)), [], []⟩ := by simp [effBin, binE, Eff.iff]
@[go_sem] theorem bin_neq : effBin .neq (.v (.int k a)) (.v (.int k b)) = ⟨True, .v (.bool (a != b)), [], []⟩ := by simp [effBin, binE, Eff.iff]
@[go_sem] theorem bin_lss : effBin .lss (.v (.int k a)) (.v (.int k b)) = ⟨True, .v (.bool (decide (a < b))), [], []⟩ := by simp [effBin, binE, Eff.iff]
@[go_sem] theorem bin_leq : effBin .leq (.v (.int k a)) (.v (.int k b)) = ⟨True, .v (.bool (decide (a ≤ b))), [], []⟩ := by simp [effBin, binE, Eff.iff]
@[go_sem] theorem bin_gtr : effBin .gtr (.v (.int k a)) (.v (.int k b)) = ⟨True, .v (.bool (decide (b < a))), [], []⟩ := by simp [effBin, binE, Eff.iff]
@[go_sem] theorem bin_geq : effBin .geq (.v (.int k a)) (.v (.int k b)) = ⟨True, .v (.bool (decide (b ≤ a))), [], []⟩ := by simp [effBin, binE, Eff.iff]
@[go_sem] theorem bin_seql : effBin .eql (.v (.string s)) (.v (.string s')) = ⟨True, .v (.bool (s.toList == s'.toList)), [], []⟩ := by simp [effBin, binE, Eff.iff]
@[go_sem] theorem bin_sneq : effBin .neq (.v (.string s)) (.v (.string s')) = ⟨True, .v (.bool (!(s.toList == s'.toList))), [], []⟩ := by simp [effBin, binE, Eff.iff]
@[go_sem] theorem bin_slss : effBin .lss (.v (.string s)) (.v (.string s')) = ⟨True, .v (.bool (strLess s s')), [], []⟩ := by simp [effBin, binE, Eff.iff]
@[go_sem] theorem bin_sleq : effBin .leq (.v (.string s)) (.v (.string s')) = ⟨True, .v (.bool (strLess s s' || s.toList == s'.toList)), [], []⟩ := by simp [effBin, binE, Eff.iff]
@[go_sem] theorem bin_sgtr : effBin .gtr (.v (.string s)) (.v (.string s')) = ⟨True, .v (.bool (!(strLess s s' || s.toList == s'.toList))), [], []⟩ := by simp [effBin, binE, Eff.iff]
@[go_sem] theorem bin_sgeq : effBin .geq (.v (.string s)) (.v (.string s')) = ⟨True, .v (.bool (!strLess s s')), [], []⟩ := by simp [effBin, binE, Eff.iff]
@[go_sem] theorem bin_sadd : effBin .add (.v (.string s)) (.v (.string s')) = ⟨((s.size + s'.size : Nat) : Int) ≤ 9223372036854775807, .v (.string (s ++ s')), [], []⟩ := by simp [effBin, binE, Eff.iff]
@[go_sem] theorem eqB_b (neg p q : Bool) : effEqB neg (.v (.bool p)) (.v (.bool q)) = ⟨True, .v (.bool (neg ^^ (p == q))), [], []⟩ := rfl
@[go_sem] theorem un_not (p : Bool) : effUn .not (.v (.bool p)) = ⟨True, .v (.bool (!p)), [], []⟩ := by simp [effUn, Eff.iff]
@[go_sem] theorem un_neg : effUn .neg (.v (.int k a)) = ⟨True, .v (.int k (k.wrap (0 - a))), [], []⟩ := by simp [effUn, Eff.iff]
@[go_sem] theorem pick_b (p q t : Bool) : effPick (.v (.bool t)) (.v (.bool p)) (.v (.bool q)) = ⟨True, if t then .v (.bool p) else .v (.bool q), [], []⟩ := rfl
@[go_sem] theorem ite_vbool (t p q : Bool) : (if t then AV.v (.bool p) else AV.v (.bool q)) = .v (.bool (if t then p else q)) := by cases t <;> rfl
@[go_sem] theorem conv_int (k' : IntKind) : effConv k' (.v (.int k a)) = ⟨True, .v (.int k' (k'.wrap a)), [], []⟩ := rfl
@[go_sem] theorem min_int : effMinMax false (.v (.int k a)) (.v (.int k b)) = ⟨True, .v (.int k (if b < a then b else a)), [], []⟩ := by simp [effMinMax, Eff.iff]
@[go_sem] theorem max_int : effMinMax true (.v (.int k a)) (.v (.int k b)) = ⟨True, .v (.int k (if a < b then b else a)), [], []⟩ := by simp [effMinMax, Eff.iff]
@[go_sem] theorem extract_tup (vs : List AV) (i : Nat) : effExtract i (.tup vs) = ⟨i < vs.length, av vs i, [], []⟩ := rfl
@[go_sem] theorem lenStr_s : effLenStr (.v (.string s)) = ⟨True, .v (.int .i64 s.size), [], []⟩ := rfl
@[go_sem] theorem idxStr_s : effIdxStr (.v (.string s)) (.v (.int k a)) = ⟨0 ≤ a ∧ a < s.size, .v (.int .u8 ((s.data.getD a.toNat 0).toNat : Int)), [], []⟩ := rfl
@[go_sem] theorem fieldAddr_rp (o : Nat) (cs : List AV) : effFieldAddr o (.rp cs) = ⟨o < cs.length, .rp (cs.drop o), [], []⟩ := rfl
@[go_sem] theorem fieldAddr_bp (o c k : Nat) : effFieldAddr o (.bp c k) = ⟨True, .bp c (k + o), [], []⟩ := rfl
@[go_sem] theorem fieldAddr_ep (o c sz i k : Nat) : effFieldAddr o (.ep c sz i k) = ⟨True, .ep c sz i (k + o), [], []⟩ := rfl
@[go_sem] theorem field_agg (o n : Nat) (agg : Bool) (cs : List AV) : effField o n agg (.agg cs) = ⟨o + n ≤ cs.length, ofCells agg n (cs.drop o), [], []⟩ := rfl
@[go_sem] theorem ofCells_t (n : Nat) (cs : List AV) : ofCells true n cs = .agg (cs.take n) := rfl
@[go_sem] theorem ofCells_f (n : Nat) (cs : List AV) : ofCells false n cs = av cs 0 := rfl
@[go_sem] theorem len_sl (h : Nat → Option Blk) (es : List (List AV)) : effLen h (.sl es) = ⟨True, .v (.int .i64 es.length), [], []⟩ := rfl
@[go_sem] theorem len_nils (h : Nat → Option Blk) : effLen h .nils = ⟨True, .v (.int .i64 0), [], []⟩ := rfl
def lenO (c : Nat) : Option Blk → Eff
  | some (.row es _ _) => ⟨True, .v (.int .i64 es.length), [], [c]⟩
  | _ => .fail
@[go_sem] theorem len_own (h : Nat → Option Blk) (c : Nat) : effLen h (.own c) = lenO c (h c) := by
  simp only [effLen]; cases h c with
  | none => rfl
  | some b => cases b <;> rfl
@[go_sem] theorem lenO_row (c : Nat) (es : List (List AV)) (sz : Nat) (e : TypeId) : lenO c (some (.row es sz e)) = ⟨True, .v (.int .i64 es.length), [], [c]⟩ := rfl
def loadB (n : Nat) (agg : Bool) (c o : Nat) : Option Blk → Eff
  | some (.box cs) => ⟨o + n ≤ cs.length, ofCells agg n (cs.drop o), [], [c]⟩
  | _ => .fail
def loadE (n : Nat) (agg : Bool) (c sz i o : Nat) : Option Blk → Eff
  | some (.row es sz' _) => ⟨sz = sz' ∧ i < es.length ∧ o + n ≤ sz, ofCells agg n ((es.getD i []).drop o), [], [c]⟩
  | _ => .fail
@[go_sem] theorem load_rp (h : Nat → Option Blk) (n : Nat) (agg : Bool) (cs : List AV) : effLoad h n agg (.rp cs) = ⟨n ≤ cs.length, ofCells agg n cs, [], []⟩ := rfl
@[go_sem] theorem load_bp (h : Nat → Option Blk) (n : Nat) (agg : Bool) (c o : Nat) : effLoad h n agg (.bp c o) = loadB n agg c o (h c) := by
  simp only [effLoad]; unfold loadB; cases h c <;> rfl
@[go_sem] theorem loadB_box (n : Nat) (agg : Bool) (c o : Nat) (cs : List AV) : loadB n agg c o (some (.box cs)) = ⟨o + n ≤ cs.length, ofCells agg n (cs.drop o), [], [c]⟩ := rfl
@[go_sem] theorem load_ep (h : Nat → Option Blk) (n : Nat) (agg : Bool) (c sz i o : Nat) : effLoad h n agg (.ep c sz i o) = loadE n agg c sz i o (h c) := by
  simp only [effLoad]; unfold loadE; cases h c <;> rfl
@[go_sem] theorem loadE_row (n : Nat) (agg : Bool) (c sz i o : Nat) (es : List (List AV)) (sz' : Nat) (e : TypeId) : loadE n agg c sz i o (some (.row es sz' e)) = ⟨sz = sz' ∧ i < es.length ∧ o + n ≤ sz, ofCells agg n ((es.getD i []).drop o), [], [c]⟩ := rfl
def storeB (n : Nat) (c o : Nat) (x : AV) : Option Blk → Eff
  | some (.box cs) => ⟨x.okCells ∧ x.cells.length = n ∧ o + n ≤ cs.length, .tup [], [(c, some (.box (splice cs o x.cells)))], [c]⟩
  | _ => .fail
def storeE (n : Nat) (c sz i o : Nat) (x : AV) : Option Blk → Eff
  | some (.row es sz' e) => ⟨x.okCells ∧ x.cells.length = n ∧ (∀ c ∈ x.cells, c.flat = true) ∧ sz = sz' ∧ i < es.length ∧ o + n ≤ sz, .tup [], [(c, some (.row (es.set i (splice (es.getD i []) o x.cells)) sz e))], [c]⟩
  | _ => .fail
@[go_sem] theorem store_bp (h : Nat → Option Blk) (n c o : Nat) (x : AV) : effStore h n (.bp c o) x = storeB n c o x (h c) := by
  simp only [effStore]; unfold storeB; cases h c <;> rfl
@[go_sem] theorem storeB_box (n c o : Nat) (x : AV) (cs : List AV) : storeB n c o x (some (.box cs)) = ⟨x.okCells ∧ x.cells.length = n ∧ o + n ≤ cs.length, .tup [], [(c, some (.box (splice cs o x.cells)))], [c]⟩ := rfl
@[go_sem] theorem store_ep (h : Nat → Option Blk) (n c sz i o : Nat) (x : AV) : effStore h n (.ep c sz i o) x = storeE n c sz i o x (h c) := by
  simp only [effStore]; unfold storeE; cases h c <;> rfl
@[go_sem] theorem storeE_row (n c sz i o : Nat) (x : AV) (es : List (List AV)) (sz' : Nat) (e : TypeId) : storeE n c sz i o x (some (.row es sz' e)) = ⟨x.okCells ∧ x.cells.length = n ∧ (∀ c ∈ x.cells, c.flat = true) ∧ sz = sz' ∧ i < es.length ∧ o + n ≤ sz, .tup [], [(c, some (.row (es.set i (splice (es.getD i []) o x.cells)) sz e))], [c]⟩ := rfl
@[go_sem] theorem idx_sl (h : Nat → Option Blk) (sz : Nat) (es : List (List AV)) : effIdxAddr h sz (.v (.int k a)) (.sl es) = ⟨0 ≤ a ∧ a < es.length ∧ (es.getD a.toNat []).length = sz, .rp (es.getD a.toNat []), [], []⟩ := rfl
def idxO (sz c : Nat) (n : Int) : Option Blk → Eff
  | some (.row es sz' _) => ⟨0 ≤ n ∧ n < es.length ∧ sz = sz', .ep c sz n.toNat 0, [], [c]⟩
  | _ => .fail
def idxP (sz c q : Nat) (a : Int) : Option Blk → Eff
  | some (.row es sz' _) => ⟨0 ≤ a ∧ a < q ∧ q ≤ es.length ∧ sz = sz', .ep c sz a.toNat 0, [], [c]⟩
  | _ => .fail
@[go_sem] theorem idxP_row (sz c q sz' : Nat) (a : Int) (es : List (List AV)) (e : TypeId) : idxP sz c q a (some (.row es sz' e)) = ⟨0 ≤ a ∧ a < q ∧ q ≤ es.length ∧ sz = sz', .ep c sz a.toNat 0, [], [c]⟩ := rfl
@[go_sem] theorem idx_pre (h : Nat → Option Blk) (sz c q : Nat) : effIdxAddr h sz (.v (.int k a)) (.pre c q) = idxP sz c q a (h c) := by
  simp only [effIdxAddr]; cases h c with
  | none => rfl
  | some b => cases b <;> rfl
@[go_sem] theorem len_pre (h : Nat → Option Blk) (c q : Nat) : effLen h (.pre c q) = ⟨True, .v (.int .i64 q), [], []⟩ := rfl
@[go_sem] theorem idx_own (h : Nat → Option Blk) (sz c : Nat) : effIdxAddr h sz (.v (.int k a)) (.own c) = idxO sz c a (h c) := by
  simp only [effIdxAddr]; cases h c with
  | none => rfl
  | some b => cases b <;> rfl
@[go_sem] theorem idxO_row (sz c : Nat) (n : Int) (es : List (List AV)) (sz' : Nat) (e : TypeId) : idxO sz c n (some (.row es sz' e)) = ⟨0 ≤ n ∧ n < es.length ∧ sz = sz', .ep c sz n.toNat 0, [], [c]⟩ := rfl
@[go_sem] theorem idxArr_agg (ln sz : Nat) (agg : Bool) (cs : List AV) : effIdxArr ln sz agg (.agg cs) (.v (.int k a)) = ⟨0 ≤ a ∧ a < ln ∧ cs.length = ln * sz, ofCells agg sz (cs.drop (a.toNat * sz)), [], []⟩ := rfl
@[go_sem] theorem slice_sl (sz : Nat) (lo hi : Option AV) (es : List (List AV)) : effSlice sz lo hi (.sl es) = ⟨(∀ x ∈ es, x.length = sz) ∧ 0 ≤ loBound lo ∧ loBound lo ≤ hiBound es.length hi ∧ hiBound es.length hi ≤ es.length, .sl ((es.take (hiBound es.length hi).toNat).drop (loBound lo).toNat), [], []⟩ := rfl
@[go_sem] theorem sliceO_sl (h : Nat → Option Blk) (sz : Nat) (lo hi : Option AV) (es : List (List AV)) : effSliceO h sz lo hi (.sl es) = effSlice sz lo hi (.sl es) := rfl
@[go_sem] theorem sliceO_nils (h : Nat → Option Blk) (sz : Nat) (lo hi : Option AV) : effSliceO h sz lo hi .nils = effSlice sz lo hi .nils := rfl
@[go_sem] theorem sliceO_own (h : Nat → Option Blk) (sz : Nat) (lo hi : Option AV) (c : Nat) : effSliceO h sz lo hi (.own c) = sliceO c sz lo hi (h c) := rfl
@[go_sem] theorem sliceO_hi (c sz : Nat) (k : AV) (es : List (List AV)) (sz' : Nat) (e : TypeId) : sliceO c sz none (some k) (some (.row es sz' e)) = ⟨sz' = sz ∧ 0 ≤ hiBound es.length (some k) ∧ hiBound es.length (some k) ≤ es.length, .pre c (hiBound es.length (some k)).toNat, [], [c]⟩ := rfl
@[go_sem] theorem sliceO_lo (c sz : Nat) (k : AV) (es : List (List AV)) (sz' : Nat) (e : TypeId) : sliceO c sz (some k) none (some (.row es sz' e)) = ⟨sz' = sz ∧ 0 ≤ loBound (some k) ∧ loBound (some k) ≤ es.length, .suf c sz (loBound (some k)).toNat, [], [c]⟩ := rfl
@[go_sem] theorem clear_suf (h : Nat → Option Blk) (sz : Nat) (zs : List Value) (c i : Nat) : effClear h sz zs (.suf c sz i) = clearR c sz i zs (h c) := if_pos rfl
@[go_sem] theorem clearR_row (c sz i : Nat) (zs : List Value) (es : List (List AV)) (sz' : Nat) (e : TypeId) : clearR c sz i zs (some (.row es sz' e)) = ⟨sz' = sz ∧ i < es.length ∧ zs.length = sz, .tup [], [(c, some (.row (es.take i ++ List.replicate (es.length - i) (zs.map AV.v)) sz e))], [c]⟩ := rfl
@[go_sem] theorem sliceStr_s (lo hi : Option AV) : effSliceStr lo hi (.v (.string s)) = ⟨0 ≤ loBound lo ∧ loBound lo ≤ hiBound s.size hi ∧ hiBound s.size hi ≤ s.size, .v (.string (s.extract (loBound lo).toNat (hiBound s.size hi).toNat)), [], []⟩ := rfl
@[go_sem] theorem slice0_sl (es : List (List AV)) : effSlice0 (.sl es) = ⟨True, .nils, [], []⟩ := rfl
@[go_sem] theorem slice0_nils : effSlice0 .nils = ⟨True, .nils, [], []⟩ := rfl
@[go_sem] theorem lo_none : loBound none = 0 := rfl
@[go_sem] theorem lo_int : loBound (some (.v (.int k a))) = a := rfl
@[go_sem] theorem hi_none (n : Nat) : hiBound n none = n := rfl
@[go_sem] theorem hi_int (n : Nat) : hiBound n (some (.v (.int k a))) = a := rfl
@[go_sem] theorem make_int (nm : Nat) (e : TypeId) (sz bytes : Nat) (zs : List Value) : effMake nm e sz bytes zs (.v (.int k a)) = ⟨0 ≤ a ∧ bytes * a ≤ 281474976710656 ∧ a ≤ 9223372036854775807, .own nm, [(nm, some (.row (List.replicate a.toNat (zs.map AV.ofV)) sz e))], []⟩ := rfl
def elemsO (sz c : Nat) : Option Blk → Option (List (List AV) × List Nat)
  | some (.row es sz' _) => if sz' = sz then some (es, [c]) else none
  | _ => none
@[go_sem] theorem elems_nils (h : Nat → Option Blk) (sz : Nat) : elemsOf h sz .nils = some ([], []) := rfl
@[go_sem] theorem elems_sl (h : Nat → Option Blk) (sz : Nat) (es : List (List AV)) : elemsOf h sz (.sl es) = some (es, []) := rfl
@[go_sem] theorem elems_own (h : Nat → Option Blk) (sz c : Nat) : elemsOf h sz (.own c) = elemsO sz c (h c) := by
  simp only [elemsOf]; unfold elemsO; cases h c <;> rfl
@[go_sem] theorem elemsO_row (sz c : Nat) (es : List (List AV)) (e : TypeId) : elemsO sz c (some (.row es sz e)) = some (es, [c]) := by simp [elemsO]
def appendO (nm c : Nat) (e : TypeId) (sz bytes : Nat) (ys : List (List AV)) (rx : List Nat) : Option Blk → Eff
  | some (.row es sz' e') => ⟨sz' = sz ∧ e' = e ∧ c ∉ rx ∧ (∀ y ∈ ys, y.length = sz) ∧ (es.length + ys.length) * bytes ≤ 140737488355328, .own nm, [(c, none), (nm, some (.row (es ++ ys) sz e))], c :: rx⟩
  | _ => .fail
def appendX (h : Nat → Option Blk) (nm : Nat) (e : TypeId) (sz bytes : Nat) (s : AV) : Option (List (List AV) × List Nat) → Eff
  | some (ys, rx) => match s with
    | .nils => ⟨(∀ y ∈ ys, y.length = sz) ∧ ys.length * bytes ≤ 140737488355328, .own nm, [(nm, some (.row ys sz e))], rx⟩
    | .own b => appendO nm b e sz bytes ys rx (h b)
    | .slf es sz' e' => ⟨sz' = sz ∧ e' = e ∧ 0 < ys.length ∧ (∀ y ∈ ys, y.length = sz) ∧ (es.length + ys.length) * bytes ≤ 140737488355328, .own nm, [(nm, some (.row (es ++ ys) sz e))], rx⟩
    | _ => .fail
  | none => .fail
@[go_sem] theorem append_x (h : Nat → Option Blk) (nm : Nat) (e : TypeId) (sz bytes : Nat) (s x : AV) : effAppend h nm e sz bytes s x = appendX h nm e sz bytes s (elemsOf h sz x) := by
  unfold effAppend appendX
  cases elemsOf h sz x with
  | none => rfl
  | some p =>
    obtain ⟨ys, rx⟩ := p
    cases s <;> rfl
@[go_sem] theorem appendX_nils (h : Nat → Option Blk) (nm : Nat) (e : TypeId) (sz bytes : Nat) (ys : List (List AV)) (rx : List Nat) : appendX h nm e sz bytes .nils (some (ys, rx)) = ⟨(∀ y ∈ ys, y.length = sz) ∧ ys.length * bytes ≤ 140737488355328, .own nm, [(nm, some (.row ys sz e))], rx⟩ := rfl
@[go_sem] theorem appendX_slf (h : Nat → Option Blk) (nm : Nat) (e : TypeId) (sz bytes : Nat) (es : List (List AV)) (sz' : Nat) (e' : TypeId) (ys : List (List AV)) (rx : List Nat) : appendX h nm e sz bytes (.slf es sz' e') (some (ys, rx)) = ⟨sz' = sz ∧ e' = e ∧ 0 < ys.length ∧ (∀ y ∈ ys, y.length = sz) ∧ (es.length + ys.length) * bytes ≤ 140737488355328, .own nm, [(nm, some (.row (es ++ ys) sz e))], rx⟩ := rfl
@[go_sem] theorem pickB_def (X Y : Eff) : pickB (default : Ans).r X Y = Y := rfl
@[go_sem] theorem copy_own (h : Nat → Option Blk) (c sz : Nat) (x : AV) : effCopy h sz (.own c) x = copyX h c sz (elemsOf h sz x) := rfl
@[go_sem] theorem copyX_some (h : Nat → Option Blk) (c sz : Nat) (ys : List (List AV)) (rx : List Nat) : copyX h c sz (some (ys, rx)) = copyO c sz ys rx (h c) := rfl
@[go_sem] theorem copyO_row (c sz : Nat) (ys es : List (List AV)) (rx : List Nat) (sz' : Nat) (e : TypeId) : copyO c sz ys rx (some (.row es sz' e)) = ⟨sz' = sz ∧ c ∉ rx ∧ es.length = ys.length ∧ 0 < ys.length ∧ (∀ y ∈ ys, y.length = sz), .v (.int .i64 ys.length), [(c, some (.row ys sz e))], c :: rx⟩ := rfl
@[go_sem] theorem appendX_own (h : Nat → Option Blk) (nm : Nat) (e : TypeId) (sz bytes c : Nat) (ys : List (List AV)) (rx : List Nat) : appendX h nm e sz bytes (.own c) (some (ys, rx)) = appendO nm c e sz bytes ys rx (h c) := rfl
@[go_sem] theorem appendO_row (nm c : Nat) (e : TypeId) (sz bytes : Nat) (ys es : List (List AV)) (rx : List Nat) (sz' : Nat) (e' : TypeId) : appendO nm c e sz bytes ys rx (some (.row es sz' e')) = ⟨sz' = sz ∧ e' = e ∧ c ∉ rx ∧ (∀ y ∈ ys, y.length = sz) ∧ (es.length + ys.length) * bytes ≤ 140737488355328, .own nm, [(c, none), (nm, some (.row (es ++ ys) sz e))], c :: rx⟩ := rfl
end eff

@[go_sem] theorem resSide_nil (P : Program) (S : AState) : resSide P S [] = True := rfl
@[go_sem] theorem resSide_cons (P : Program) (S : AState) (r : ResultVar) (l : List ResultVar) : resSide P S (r :: l) = ((resE P S r).side ∧ resSide P S l) := rfl
@[go_sem] theorem resVals_nil (P : Program) (S : AState) : resVals P S [] = [] := rfl
@[go_sem] theorem resVals_cons (P : Program) (S : AState) (r : ResultVar) (l : List ResultVar) : resVals P S (r :: l) = (resE P S r).val :: resVals P S l := rfl
@[go_sem] theorem resV_one (x : AV) : resV [x] = x := rfl
@[go_sem] theorem resV_two (x y : AV) (l : List AV) : resV (x :: y :: l) = .tup (x :: y :: l) := rfl
@[go_sem] theorem resV_nil : resV [] = .tup [] := rfl
@[go_sem] theorem resE_tmp (P : Program) (S : AState) (t : Nat) : resE P S (.tmp t) = ⟨True, S.t t, [], []⟩ := rfl
@[go_sem] theorem resE_cell (P : Program) (S : AState) (a t : Nat) : resE P S (.cell a t) = effLoad S.h (P.cellsOf t) (isAggB P t) (S.t a) := rfl
@[go_sem] theorem exit_or : (AExit.ret = AExit.normal ∨ AExit.ret = AExit.ret) = True := by simp
@[go_sem] theorem exit_or' : (AExit.normal = AExit.normal ∨ AExit.normal = AExit.ret) = True := by simp
@[go_sem] theorem seqQ_normal (K : Nat → AState → Prop) (Q : AExit → Nat → AState → Prop) (nx : Nat) (S : AState) : seqQ K Q .normal nx S = K nx S := rfl
@[go_sem] theorem seqQ_exit (K : Nat → AState → Prop) (Q : AExit → Nat → AState → Prop) (i nx : Nat) (S : AState) : seqQ K Q (.exit i) nx S = Q (.exit i) nx S := rfl
@[go_sem] theorem seqQ_ret (K : Nat → AState → Prop) (Q : AExit → Nat → AState → Prop) (nx : Nat) (S : AState) : seqQ K Q .ret nx S = Q .ret nx S := rfl
@[go_sem] theorem loopQ_normal (K : Nat → AState → Prop) (Q : AExit → Nat → AState → Prop) (nx : Nat) (S : AState) : loopQ K Q .normal nx S = K nx S := rfl
@[go_sem] theorem loopQ_exit (K : Nat → AState → Prop) (Q : AExit → Nat → AState → Prop) (i nx : Nat) (S : AState) : loopQ K Q (.exit i) nx S = Q (.exit i) nx S := rfl
@[go_sem] theorem loopQ_ret (K : Nat → AState → Prop) (Q : AExit → Nat → AState → Prop) (nx : Nat) (S : AState) : loopQ K Q .ret nx S = Q .ret nx S := rfl
@[go_sem] theorem blockQ_normal (id : Nat) (Q : AExit → Nat → AState → Prop) (nx : Nat) (S : AState) : blockQ id Q .normal nx S = Q .normal nx S := rfl
@[go_sem] theorem blockQ_exit (id : Nat) (Q : AExit → Nat → AState → Prop) (i nx : Nat) (S : AState) : blockQ id Q (.exit i) nx S = if i = id then Q .normal nx S else Q (.exit i) nx S := rfl
@[go_sem] theorem blockQ_ret (id : Nat) (Q : AExit → Nat → AState → Prop) (nx : Nat) (S : AState) : blockQ id Q .ret nx S = Q .ret nx S := rfl
theorem Lower.bool {h : Nat → Option Blk} {x y : Bool} (e : x = y) : Lower h (.v (.bool x)) (.v (.bool y)) := by subst e; exact .same _ rfl
theorem Lower.int {h : Nat → Option Blk} {k : IntKind} {x y : Int} (e : x = y) : Lower h (.v (.int k x)) (.v (.int k y)) := by subst e; exact .same _ rfl

attribute [go_sem] buildE rowE AV.okCells AV.cells AV.one splice Value.oneCell' List.map_cons List.map_nil List.length_cons List.length_nil List.drop_zero List.drop_succ_cons List.take_zero List.take_succ_cons List.take_nil List.drop_nil List.cons_append List.nil_append List.append_nil
  true_and and_true or_true true_or or_false false_or Bool.false_eq_true if_true if_false Option.map_some Option.map_none List.getD_cons_zero List.getD_cons_succ Int.toNat_natCast ne_eq not_false_eq_true Bool.not_true Bool.not_false List.not_mem_nil

end Go.Ab
end
section
set_option linter.unusedVariables false
set_option linter.unusedSimpArgs false
namespace Go.Ab
open Go.RowKit

def lowB (o : Nat) (f : AV → AV) : Option Blk → AV
  | some (.box cs) => if o ≤ cs.length then .rp ((cs.map f).drop o) else .any
  | _ => .any
def lowR : Option Blk → AV
  | some (.row es _ _) => .sl es
  | _ => .any
def lowP (q : Nat) : Option Blk → AV
  | some (.row es _ _) => if q ≤ es.length then .sl (es.take q) else .any
  | _ => .any
/-- A value as a callee sees it that only reads. -/
def low (h : Nat → Option Blk) : Nat → AV → AV
  | k + 1, .own b => lowR (h b)
  | 0, .own _ => .any
  | k + 1, .bp b o => lowB o (low h k) (h b)
  | 0, .bp _ _ => .any
  | _, .ep _ _ _ _ => .any
  | _, .suf _ _ _ => .any
  | _, .slf es _ _ => .sl es
  | k + 1, .pre b q => lowP q (h b)
  | 0, .pre _ _ => .any
  | k + 1, .agg cs => .agg (cs.map (low h k))
  | k + 1, .tup cs => .tup (cs.map (low h k))
  | k + 1, .fn f cs => .fn f (cs.map (low h k))
  | 0, .agg _ => .any
  | 0, .tup _ => .any
  | 0, .fn _ _ => .any
  | _, .any => .any
  | _, .v x => .v x
  | _, .nils => .sl []
  | _, .sl es => .sl es
  | _, .rp cs => .rp cs

def hlB (b : Nat) (f : List AV → List (Nat × Blk)) : Option Blk → List (Nat × Blk)
  | some (.box cs) => (b, .box cs) :: f cs
  | some (.row es sz e) => [(b, .row es sz e)]
  | some (.iter ..) => []
  | none => []
/-- The own blocks that a value leads to. -/
def hlOf (h : Nat → Option Blk) : Nat → AV → List (Nat × Blk)
  | k + 1, .own b => hlB b (fun cs => cs.flatMap (hlOf h k)) (h b)
  | k + 1, .pre b _ => hlB b (fun cs => cs.flatMap (hlOf h k)) (h b)
  | k + 1, .bp b _ => hlB b (fun cs => cs.flatMap (hlOf h k)) (h b)
  | k + 1, .agg cs => cs.flatMap (hlOf h k)
  | k + 1, .tup cs => cs.flatMap (hlOf h k)
  | k + 1, .fn _ cs => cs.flatMap (hlOf h k)
  | _, _ => []

section low
variable (h : Nat → Option Blk) (k : Nat)
@[go_sem] theorem low_own (b : Nat) : low h (k + 1) (.own b) = lowR (h b) := rfl
@[go_sem] theorem low_pre (b q : Nat) : low h (k + 1) (.pre b q) = lowP q (h b) := rfl
@[go_sem] theorem lowP_row (q : Nat) (es : List (List AV)) (sz : Nat) (e : TypeId) : lowP q (some (.row es sz e)) = if q ≤ es.length then .sl (es.take q) else .any := rfl
@[go_sem] theorem hl_pre (b q : Nat) : hlOf h (k + 1) (.pre b q) = hlB b (fun cs => cs.flatMap (hlOf h k)) (h b) := rfl
@[go_sem] theorem low_bp (b o : Nat) : low h (k + 1) (.bp b o) = lowB o (low h k) (h b) := rfl
@[go_sem] theorem low_agg (cs : List AV) : low h (k + 1) (.agg cs) = .agg (cs.map (low h k)) := rfl
@[go_sem] theorem low_tup (cs : List AV) : low h (k + 1) (.tup cs) = .tup (cs.map (low h k)) := rfl
@[go_sem] theorem low_fn (f : Nat) (cs : List AV) : low h (k + 1) (.fn f cs) = .fn f (cs.map (low h k)) := rfl
@[go_sem] theorem low_v (x : Value) : low h k (.v x) = .v x := by cases k <;> rfl
@[go_sem] theorem low_nils : low h k .nils = .sl [] := by cases k <;> rfl
@[go_sem] theorem low_slf (es : List (List AV)) (sz : Nat) (e : TypeId) : low h k (.slf es sz e) = .sl es := by cases k <;> rfl
@[go_sem] theorem hl_slf (es : List (List AV)) (sz : Nat) (e : TypeId) : hlOf h k (.slf es sz e) = [] := by cases k <;> rfl
@[go_sem] theorem low_sl (es : List (List AV)) : low h k (.sl es) = .sl es := by cases k <;> rfl
@[go_sem] theorem low_rp (es : List AV) : low h k (.rp es) = .rp es := by cases k <;> rfl
@[go_sem] theorem lowR_row (es : List (List AV)) (sz : Nat) (e : TypeId) : lowR (some (.row es sz e)) = .sl es := rfl
@[go_sem] theorem lowB_box (o : Nat) (f : AV → AV) (cs : List AV) : lowB o f (some (.box cs)) = if o ≤ cs.length then .rp ((cs.map f).drop o) else .any := rfl
@[go_sem] theorem hl_own (b : Nat) : hlOf h (k + 1) (.own b) = hlB b (fun cs => cs.flatMap (hlOf h k)) (h b) := rfl
@[go_sem] theorem hl_bp (b o : Nat) : hlOf h (k + 1) (.bp b o) = hlB b (fun cs => cs.flatMap (hlOf h k)) (h b) := rfl
@[go_sem] theorem hl_agg (cs : List AV) : hlOf h (k + 1) (.agg cs) = cs.flatMap (hlOf h k) := rfl
@[go_sem] theorem hl_tup (cs : List AV) : hlOf h (k + 1) (.tup cs) = cs.flatMap (hlOf h k) := rfl
@[go_sem] theorem hl_fn (f : Nat) (cs : List AV) : hlOf h (k + 1) (.fn f cs) = cs.flatMap (hlOf h k) := rfl
@[go_sem] theorem hl_v (x : Value) : hlOf h k (.v x) = [] := by cases k <;> rfl
@[go_sem] theorem hl_any : hlOf h k .any = [] := by cases k <;> rfl
@[go_sem] theorem hl_nils : hlOf h k .nils = [] := by cases k <;> rfl
@[go_sem] theorem hl_sl (es : List (List AV)) : hlOf h k (.sl es) = [] := by cases k <;> rfl
@[go_sem] theorem hl_rp (es : List AV) : hlOf h k (.rp es) = [] := by cases k <;> rfl
@[go_sem] theorem hlB_row (b : Nat) (f : List AV → List (Nat × Blk)) (es : List (List AV)) (sz : Nat) (e : TypeId) : hlB b f (some (.row es sz e)) = [(b, .row es sz e)] := rfl
@[go_sem] theorem hlB_box (b : Nat) (f : List AV → List (Nat × Blk)) (cs : List AV) : hlB b f (some (.box cs)) = (b, .box cs) :: f cs := rfl
end low

theorem hlB_mem {b : Nat} {f : List AV → List (Nat × Blk)} {x : Option Blk} {p : Nat × Blk} (hp : p ∈ hlB b f x) : (p.1 = b ∧ x = some p.2) ∨ ∃ cs, x = some (.box cs) ∧ p ∈ f cs := by
  cases x with
  | none => simp [hlB] at hp
  | some y => cases y with
    | box cs =>
      simp only [hlB, List.mem_cons] at hp
      rcases hp with rfl | hp
      · exact .inl ⟨rfl, rfl⟩
      · exact .inr ⟨cs, rfl, hp⟩
    | row es sz e =>
      simp only [hlB, List.mem_singleton] at hp
      subst hp
      exact .inl ⟨rfl, rfl⟩
    | iter s pos => simp [hlB] at hp

theorem hlOf_spec (h : Nat → Option Blk) : ∀ (k : Nat) (x : AV), ∀ p ∈ hlOf h k x, h p.1 = some p.2
  | 0, x, p, hp => by cases x <;> simp [hlOf] at hp
  | k + 1, x, p, hp => by
    have hm : ∀ cs : List AV, p ∈ cs.flatMap (hlOf h k) → h p.1 = some p.2 := fun cs hp => by
      obtain ⟨c, _, hc⟩ := List.mem_flatMap.1 hp
      exact hlOf_spec h k c p hc
    have hb : ∀ b, p ∈ hlB b (fun cs => cs.flatMap (hlOf h k)) (h b) → h p.1 = some p.2 := fun b hp => by
      rcases hlB_mem hp with ⟨h1, h2⟩ | ⟨cs, _, h2⟩
      · rw [h1]; exact h2
      · exact hm cs h2
    cases x with
    | own b => exact hb b hp
    | pre b q => exact hb b hp
    | bp b o => exact hb b hp
    | agg cs => exact hm cs hp
    | tup cs => exact hm cs hp
    | fn f cs => exact hm cs hp
    | _ => simp [hlOf] at hp

theorem listH_of {l : List (Nat × Blk)} {h : Nat → Option Blk} (hs : ∀ p ∈ l, h p.1 = some p.2) {n : Nat} {b : Blk} (hb : (n, b) ∈ l) : listH l n = some b := by
  induction l with
  | nil => simp at hb
  | cons p r ih =>
    obtain ⟨k, b'⟩ := p
    simp only [listH]
    by_cases hn : n = k
    · rw [if_pos hn]
      have h1 := hs (k, b') (by simp)
      have h2 := hs (n, b) hb
      simp only at h1 h2
      rw [hn, h1] at h2
      exact h2
    · rw [if_neg hn]
      refine ih (fun p hp => hs p (by simp [hp])) ?_
      rcases List.mem_cons.1 hb with e | e
      · simp at e; exact absurd e.1 hn
      · exact e

theorem lower_low (h : Nat → Option Blk) {l : List (Nat × Blk)} (hs : ∀ p ∈ l, h p.1 = some p.2) : ∀ (k : Nat) (x : AV), (∀ p ∈ hlOf h k x, p ∈ l) → Lower (listH l) x (low h k x)
  | 0, x, hl => by cases x <;> first | exact .any _ | exact .nil0 | exact .full _ _ _ | exact .same _ rfl
  | k + 1, x, hl => by
    have hm : ∀ cs : List AV, (∀ p ∈ cs.flatMap (hlOf h k), p ∈ l) → cs.length = (cs.map (low h k)).length ∧ ∀ j, j < cs.length → Lower (listH l) (av cs j) (av (cs.map (low h k)) j) := fun cs hcs => by
      refine ⟨by simp, fun j hj => ?_⟩
      have e : av (cs.map (low h k)) j = low h k (av cs j) := by simp [av, List.getD_eq_getElem?_getD, hj]
      rw [e]
      exact lower_low h hs k _ fun p hp => hcs p (List.mem_flatMap.2 ⟨_, av_mem hj, hp⟩)
    cases x with
    | own b =>
      rw [low_own]
      cases hb : h b with
      | none => exact .any _
      | some y => cases y with
        | box cs => exact .any _
        | iter q p => exact .any _
        | row es sz e => exact .own (listH_of hs (hl (b, .row es sz e) (by simp [hlOf, hb, hlB])))
    | pre b q =>
      rw [low_pre]
      cases hb : h b with
      | none => exact .any _
      | some y => cases y with
        | box cs => exact .any _
        | iter q p => exact .any _
        | row es sz e =>
          simp only [lowP]
          split
          · exact .pre (listH_of hs (hl (b, .row es sz e) (by simp [hlOf, hb, hlB]))) (by assumption)
          · exact .any _
    | bp b o =>
      rw [low_bp]
      cases hb : h b with
      | none => exact .any _
      | some y => cases y with
        | row es sz e => exact .any _
        | iter q p => exact .any _
        | box cs =>
          simp only [lowB]
          split
          · have hcs := hm cs (fun p hp => hl p (by simp only [hlOf, hb, hlB]; exact List.mem_cons_of_mem _ hp))
            exact .bp (listH_of hs (hl (b, .box cs) (by simp [hlOf, hb, hlB]))) hcs.1 (by assumption) hcs.2
          · exact .any _
    | agg cs => exact .agg (hm cs hl).1 (hm cs hl).2
    | tup cs => exact .tup (hm cs hl).1 (hm cs hl).2
    | fn f cs => exact .fn (hm cs hl).1 (hm cs hl).2
    | ep b sz i o => exact .any _
    | suf b sz i => exact .any _
    | slf es sz e => exact .full _ _ _
    | any => exact .any _
    | nils => exact .nil0
    | _ => exact .same _ rfl

/-- What a call asks for, the arguments as the callee sees them. -/
def CallP (P : Program) (f : FuncId) (S : AState) (nm : Nat) (lv : List AV) (names : List Nat) (K : AV → Prop) : Prop :=
  ∃ r, Pure P f lv r ∧ nm ∉ names ∧ (names = [] ∨ Dry r) ∧ K r
def CallO (P : Program) (f : FuncId) (S : AState) (nm : Nat) (lv : List AV) (names : List Nat) (K : List (List AV) → Nat → TypeId → Prop) : Prop :=
  ∃ es sz ty, PureOwn P f lv es sz ty ∧ nm ∉ names ∧ (names = [] ∨ ∀ y ∈ es, ∀ c ∈ y, Dry c) ∧ K es sz ty

def lows (S : AState) (vs : List AV) : List AV := vs.map (low S.h 8)
def hls (S : AState) (vs : List AV) : List (Nat × Blk) := vs.flatMap (hlOf S.h 8)

theorem callC_of {P : Program} {f : FuncId} {S : AState} {nm : Nat} {vs : List AV} {r : AV} (h1 : Pure P f (lows S vs) r) (h2 : nm ∉ (hls S vs).map (·.1)) (h3 : (hls S vs).map (·.1) = [] ∨ Dry r) : (effCall P S nm ⟨r, [], hls S vs⟩ f vs).side := by
  have hs : ∀ p ∈ hls S vs, S.h p.1 = some p.2 := fun p hp => by
    obtain ⟨x, _, hx⟩ := List.mem_flatMap.1 hp
    exact hlOf_spec S.h 8 x p hx
  refine ⟨hs, fun p hp => by simp at hp, h2, CallC.pure h1 (by simp [lows]) (fun j hj => ?_) (h3.imp (fun e => by simpa using e) id)⟩
  have e : av (lows S vs) j = low S.h 8 (av vs j) := by simp [lows, av, List.getD_eq_getElem?_getD, hj]
  rw [e]
  exact lower_low S.h hs 8 _ fun p hp => List.mem_flatMap.2 ⟨_, av_mem hj, hp⟩

theorem callO_of {P : Program} {f : FuncId} {S : AState} {nm : Nat} {vs : List AV} {es : List (List AV)} {sz : Nat} {ty : TypeId} (h1 : PureOwn P f (lows S vs) es sz ty) (h2 : nm ∉ (hls S vs).map (·.1)) (h3 : (hls S vs).map (·.1) = [] ∨ ∀ y ∈ es, ∀ c ∈ y, Dry c) :
    (effCall P S nm ⟨.own nm, [(nm, some (.row es sz ty))], hls S vs⟩ f vs).side := by
  have hs : ∀ p ∈ hls S vs, S.h p.1 = some p.2 := fun p hp => by
    obtain ⟨x, _, hx⟩ := List.mem_flatMap.1 hp
    exact hlOf_spec S.h 8 x p hx
  refine ⟨hs, fun p hp => by simp at hp; exact .inl (by rw [hp]), h2, CallC.own h1 (by simp [lows]) (fun j hj => ?_) h2 (h3.imp (fun e => by simpa using e) id)⟩
  have e : av (lows S vs) j = low S.h 8 (av vs j) := by simp [lows, av, List.getD_eq_getElem?_getD, hj]
  rw [e]
  exact lower_low S.h hs 8 _ fun p hp => List.mem_flatMap.2 ⟨_, av_mem hj, hp⟩

/-- The function and the values of a call. -/
def callee (S : AState) : AOp → Option (FuncId × List AV)
  | .call f asz => some (f, asz.map (evo S))
  | .callv x asz => match evo S x with
    | .fn f caps => some (f, asz.map (evo S) ++ caps)
    | _ => none
  | _ => none

theorem eff_callee {P : Program} {nm : Nat} {S : AState} {an : Ans} {op : AOp} {f : FuncId} {vs : List AV} (h : callee S op = some (f, vs)) : op.eff P nm S an = effCall P S nm an f vs ∧ op.isCall = true := by
  cases op <;> simp only [callee] at h <;> try (cases h; done)
  · simp at h
    obtain ⟨rfl, rfl⟩ := h
    exact ⟨rfl, rfl⟩
  · rename_i x asz
    cases hx : evo S x <;> simp [hx] at h
    obtain ⟨rfl, rfl⟩ := h
    simp [AOp.eff, hx, effCallV, AOp.isCall]

section calls
variable {P : Program} {d : Option Nat} {op : AOp} {deps : List Nat} {r : List AOper} {nm : Nat} {S : AState}

theorem aops_low {f : FuncId} {vs : List AV} {K : AState → Prop} (hc : callee S op = some (f, vs)) (h : CallP P f S nm (lows S vs) ((hls S vs).map (·.1)) fun x => aops P r (nm + 1) (S.app d ⟨True, x, [], []⟩) K) :
    aopsC P ⟨d, op, none, deps⟩ r nm S K := by
  obtain ⟨x, h1, h2, h3, h4⟩ := h
  obtain ⟨e1, e2⟩ := eff_callee (P := P) (nm := nm) (an := ⟨x, [], hls S vs⟩) hc
  exact aops_call ⟨x, [], hls S vs⟩ (choosy_of_call e2) (by rw [e1]; exact callC_of h1 h2 h3) (by rw [e1]; exact h4)

theorem aops_lowO {f : FuncId} {vs : List AV} {K : AState → Prop} (hc : callee S op = some (f, vs)) (h : CallO P f S nm (lows S vs) ((hls S vs).map (·.1)) fun es sz ty => aops P r (nm + 1) (S.app d ⟨True, .own nm, [(nm, some (.row es sz ty))], []⟩) K) :
    aopsC P ⟨d, op, none, deps⟩ r nm S K := by
  obtain ⟨es, sz, ty, h1, h2, h3, h4⟩ := h
  obtain ⟨e1, e2⟩ := eff_callee (P := P) (nm := nm) (an := ⟨.own nm, [(nm, some (.row es sz ty))], hls S vs⟩) hc
  exact aops_call ⟨.own nm, [(nm, some (.row es sz ty))], hls S vs⟩ (choosy_of_call e2) (by rw [e1]; exact callO_of h1 h2 h3) (by rw [e1]; exact h4)

theorem aopsL_low {f : FuncId} {vs : List AV} {l : List Ent} {K : AState → List Ent → Prop} (hc : callee S op = some (f, vs)) (h : CallP P f S nm (lows S vs) ((hls S vs).map (·.1)) fun x => aopsL P r (nm + 1) (S.app d ⟨True, x, [], []⟩) (l ++ [⟨op.temps, (hls S vs).map (·.1), d, []⟩]) K) :
    aopsLC P ⟨d, op, none, deps⟩ r nm S l K := by
  obtain ⟨x, h1, h2, h3, h4⟩ := h
  obtain ⟨e1, e2⟩ := eff_callee (P := P) (nm := nm) (an := ⟨x, [], hls S vs⟩) hc
  exact aopsL_call ⟨x, [], hls S vs⟩ (choosy_of_call e2) (by rw [e1]; exact callC_of h1 h2 h3) (by rw [e1]; exact h4)

theorem aopsL_lowO {f : FuncId} {vs : List AV} {l : List Ent} {K : AState → List Ent → Prop} (hc : callee S op = some (f, vs)) (h : CallO P f S nm (lows S vs) ((hls S vs).map (·.1)) fun es sz ty => aopsL P r (nm + 1) (S.app d ⟨True, .own nm, [(nm, some (.row es sz ty))], []⟩) (l ++ [⟨op.temps, (hls S vs).map (·.1), d, [nm]⟩]) K) :
    aopsLC P ⟨d, op, none, deps⟩ r nm S l K := by
  obtain ⟨es, sz, ty, h1, h2, h3, h4⟩ := h
  obtain ⟨e1, e2⟩ := eff_callee (P := P) (nm := nm) (an := ⟨.own nm, [(nm, some (.row es sz ty))], hls S vs⟩) hc
  exact aopsL_call ⟨.own nm, [(nm, some (.row es sz ty))], hls S vs⟩ (choosy_of_call e2) (by rw [e1]; exact callO_of h1 h2 h3) (by rw [e1]; exact h4)

/-- A call under a guard, in a region that draws. -/
theorem aopsL_lowG {t : Nat} {b want : Bool} {l : List Ent} {K : AState → List Ent → Prop} (hop : op.isCall = true) (hb : S.t t = .v (.bool b))
    (h1 : b = want → ∃ f vs, callee S op = some (f, vs) ∧ CallP P f S nm (lows S vs) ((hls S vs).map (·.1)) fun x => aopsL P r (nm + 1) (S.app d ⟨True, x, [], []⟩) (l ++ [⟨t :: op.temps, (hls S vs).map (·.1), d, []⟩]) K)
    (h2 : b = (!want) → aopsL P r (nm + 1) (S.put d (.tup [])) (l ++ [⟨[t], [], d, []⟩]) K) : aopsLC P ⟨d, op, some (t, want), deps⟩ r nm S l K := by
  refine aopsL_callg (choosy_of_call hop) ?_
  rw [hb]
  refine gval_intro (fun e => ?_) h2
  obtain ⟨f, vs, hc, x, g1, g2, g3, g4⟩ := h1 e
  obtain ⟨e1, e2⟩ := eff_callee (P := P) (nm := nm) (an := ⟨x, [], hls S vs⟩) hc
  exact ⟨⟨x, [], hls S vs⟩, by rw [e1]; exact callC_of g1 g2 g3, by rw [e1]; exact g4⟩
end calls

/-! ### Ghost steps over states that are written out -/

def AllV (S : AState) (hd : Nat → Option Blk) (ρ : Nat → Nat) (nx : Nat) : List (Nat × AV) → Prop
  | [] => True
  | (t, y) :: r => View hd ρ nx (S.t t) y ∧ AllV S hd ρ nx r
def AllB (S : AState) (hd : Nat → Option Blk) (ρ : Nat → Nat) (nx : Nat) : List (Nat × Blk) → Prop
  | [] => True
  | (n, b') :: r => (n < nx ∧ ∃ b, S.h (ρ n) = some b ∧ BView hd ρ nx b b') ∧ AllB S hd ρ nx r
def deadH (S : AState) : List Nat → Nat → Option Blk
  | [], _ => none
  | k :: r, n => if n = k then S.h n else deadH S r n

theorem allV_spec {S : AState} {hd : Nat → Option Blk} {ρ : Nat → Nat} {nx : Nat} : ∀ {ts : List (Nat × AV)}, AllV S hd ρ nx ts → ∀ t, View hd ρ nx (S.t t) (lk .any ts t)
  | [], _, t => .any _
  | (k, y) :: r, h, t => by
    simp only [lk]
    split
    · rename_i e; subst e; exact h.1
    · exact allV_spec h.2 t
theorem allB_spec {S : AState} {hd : Nat → Option Blk} {ρ : Nat → Nat} {nx : Nat} : ∀ {hs : List (Nat × Blk)}, AllB S hd ρ nx hs → ∀ n b', listH hs n = some b' → n < nx ∧ ∃ b, S.h (ρ n) = some b ∧ BView hd ρ nx b b'
  | [], _, n, b', hb => by simp [listH] at hb
  | (k, y) :: r, h, n, b', hb => by
    simp only [listH] at hb
    split at hb
    · rename_i e; subst e; simp at hb; subst hb; exact h.1
    · exact allB_spec h.2 n b' hb
theorem deadH_spec {S : AState} : ∀ {dead : List Nat} {b : Nat} {blk : Blk}, deadH S dead b = some blk → b ∈ dead ∧ S.h b = some blk
  | [], b, blk, h => by simp [deadH] at h
  | k :: r, b, blk, h => by
    simp only [deadH] at h
    split at h
    · rename_i e; subst e; exact ⟨by simp, h⟩
    · have := deadH_spec h; exact ⟨by simp [this.1], this.2⟩

/-- The names: pairs of the new one and the old one. -/
def ren (ns : List (Nat × Nat)) (n : Nat) : Nat := lk n ns n

theorem Ghost.mk {nx nx' : Nat} {S : AState} {ts : List (Nat × AV)} {hs : List (Nat × Blk)} (ns : List (Nat × Nat)) (dead : List Nat)
    (hdead : (hs.all fun p => !dead.contains (ren ns p.1)) = true) (hinj : (hs.all fun p => hs.all fun q => ren ns p.1 != ren ns q.1 || p.1 == q.1) = true)
    (hV : AllV S (deadH S dead) (ren ns) nx' ts) (hB : AllB S (deadH S dead) (ren ns) nx' hs) : Ghost 0 nx S nx' (mkS ts hs) := by
  refine Ghost.view (ren ns) (deadH S dead) (fun n hn => by omega) (fun b blk hb => ?_) (allV_spec hV) (allB_spec hB) (fun n m b b' hb hb' he => ?_)
  · obtain ⟨h1, h2⟩ := deadH_spec hb
    refine ⟨rfl, h2, fun n blk' hn e => ?_⟩
    have := List.all_eq_true.1 hdead _ (listH_mem hn)
    simp only [Bool.not_eq_true', List.contains_eq_mem, decide_eq_false_iff_not] at this
    exact this (by rw [e]; exact h1)
  · have h1 := List.all_eq_true.1 hinj _ (listH_mem hb)
    have h2 := List.all_eq_true.1 h1 _ (listH_mem hb')
    simp only [Bool.or_eq_true, bne_iff_ne, ne_eq, beq_iff_eq] at h2
    rcases h2 with h2 | h2
    · exact absurd he h2
    · exact h2

@[go_sem] theorem allV_nil (S : AState) (hd : Nat → Option Blk) (ρ : Nat → Nat) (nx : Nat) : AllV S hd ρ nx [] = True := rfl
@[go_sem] theorem allV_cons (S : AState) (hd : Nat → Option Blk) (ρ : Nat → Nat) (nx t : Nat) (y : AV) (r : List (Nat × AV)) : AllV S hd ρ nx ((t, y) :: r) = (View hd ρ nx (S.t t) y ∧ AllV S hd ρ nx r) := rfl
@[go_sem] theorem allB_nil (S : AState) (hd : Nat → Option Blk) (ρ : Nat → Nat) (nx : Nat) : AllB S hd ρ nx [] = True := rfl
@[go_sem] theorem allB_cons (S : AState) (hd : Nat → Option Blk) (ρ : Nat → Nat) (nx n : Nat) (b : Blk) (r : List (Nat × Blk)) : AllB S hd ρ nx ((n, b) :: r) = ((n < nx ∧ ∃ b0, S.h (ρ n) = some b0 ∧ BView hd ρ nx b0 b) ∧ AllB S hd ρ nx r) := rfl
@[go_sem] theorem ren_nil (n : Nat) : ren [] n = n := rfl
@[go_sem] theorem ren_same (n k : Nat) (r : List (Nat × Nat)) : ren ((n, k) :: r) n = k := by simp [ren, lk]
@[go_sem] theorem ren_ne (n m k : Nat) (r : List (Nat × Nat)) (h : n ≠ m) : ren ((m, k) :: r) n = ren r n := by simp [ren, lk, h]
@[go_sem] theorem view_v (hd : Nat → Option Blk) (ρ : Nat → Nat) (nx : Nat) (x : Value) : View hd ρ nx (.v x) (.v x) = True := by simp; exact .low (.same _ rfl)
@[go_sem] theorem view_sl (hd : Nat → Option Blk) (ρ : Nat → Nat) (nx : Nat) (x : List (List AV)) : View hd ρ nx (.sl x) (.sl x) = True := by simp; exact .low (.same _ rfl)
@[go_sem] theorem view_rp (hd : Nat → Option Blk) (ρ : Nat → Nat) (nx : Nat) (x : List AV) : View hd ρ nx (.rp x) (.rp x) = True := by simp; exact .low (.same _ rfl)
@[go_sem] theorem view_nils (hd : Nat → Option Blk) (ρ : Nat → Nat) (nx : Nat) : View hd ρ nx .nils .nils = True := by simp; exact .low (.same _ rfl)
@[go_sem] theorem view_any (hd : Nat → Option Blk) (ρ : Nat → Nat) (nx : Nat) (x : AV) : View hd ρ nx x .any = True := by simp; exact .any _
theorem View.int {hd : Nat → Option Blk} {ρ : Nat → Nat} {nx : Nat} {k : IntKind} {x y : Int} (e : x = y) : View hd ρ nx (.v (.int k x)) (.v (.int k y)) := by subst e; exact .low (.same _ rfl)
theorem View.fnF {hd : Nat → Option Blk} {ρ : Nat → Nat} {nx : Nat} {f : Nat} {cs : List AV} (h : ∀ c ∈ cs, c.flat = true) : View hd ρ nx (.fn f cs) (.fn f cs) := .low (.fn rfl fun j hj => .same _ (h _ (av_mem hj)))
theorem wrap_i64 {n : Int} (h1 : -9223372036854775808 ≤ n) (h2 : n ≤ 9223372036854775807) : IntKind.i64.wrap n = n := by
  simp only [IntKind.wrap, IntKind.bits, IntKind.signed]
  have e : (2 : Int) ^ 64 = 18446744073709551616 := by decide
  have e2 : (2 : Int) ^ (64 - 1) = 9223372036854775808 := by decide
  simp only [e, e2, Bool.true_and, decide_eq_true_eq]
  split <;> omega

attribute [go_sem] callee lows hls List.flatMap_cons List.flatMap_nil

end Go.Ab
end
section
set_option linter.unusedVariables false
set_option linter.unusedSimpArgs false
namespace Go.Ab

@[go_sem] theorem range_s (nm : Nat) (s : ByteArray) : effRange nm (.v (.string s)) = ⟨True, .bp nm 0, [(nm, some (.iter s 0))], []⟩ := rfl
def nextO (b : Nat) : Option Blk → Eff
  | some (.iter s pos) => ⟨True, nextV s pos, [(b, some (.iter s (nextPos s pos)))], [b]⟩
  | _ => .fail
@[go_sem] theorem next_bp (h : Nat → Option Blk) (b : Nat) : effNext h (.bp b 0) = nextO b (h b) := by
  simp only [effNext]; unfold nextO; cases h b with
  | none => rfl
  | some y => cases y <;> rfl
@[go_sem] theorem nextO_iter (b : Nat) (s : ByteArray) (pos : Nat) : nextO b (some (.iter s pos)) = ⟨True, nextV s pos, [(b, some (.iter s (nextPos s pos)))], [b]⟩ := rfl
theorem nextV_in {s : ByteArray} {pos : Nat} (h : pos < s.size) : nextV s pos = .tup [.v (.bool true), .v (.int .i64 pos), .v (.int .i32 ((Utf8.decode s pos).1 : Nat))] := by simp [nextV, h]
theorem nextV_end {s : ByteArray} {pos : Nat} (h : ¬ pos < s.size) : nextV s pos = .tup [.v (.bool false)] := by simp [nextV, h]
theorem nextPos_in {s : ByteArray} {pos : Nat} (h : pos < s.size) : nextPos s pos = pos + (Utf8.decode s pos).2 := by simp [nextPos, h]
theorem nextPos_end {s : ByteArray} {pos : Nat} (h : ¬ pos < s.size) : nextPos s pos = pos := by simp [nextPos, h]

theorem callP_nil {P : Program} {f : FuncId} {S : AState} {nm : Nat} {lv : List AV} {K : AV → Prop} {r : AV} (h : Pure P f lv r) (hk : K r) : CallP P f S nm lv [] K := ⟨r, h, by simp, .inl rfl, hk⟩
theorem callP_dry {P : Program} {f : FuncId} {S : AState} {nm : Nat} {lv : List AV} {names : List Nat} {K : AV → Prop} {r : AV} (h : Pure P f lv r) (hn : nm ∉ names) (hd : Dry r) (hk : K r) : CallP P f S nm lv names K := ⟨r, h, hn, .inr hd, hk⟩
theorem callO_nil {P : Program} {f : FuncId} {S : AState} {nm : Nat} {lv : List AV} {K : List (List AV) → Nat → TypeId → Prop} {es : List (List AV)} {sz : Nat} {ty : TypeId} (h : PureOwn P f lv es sz ty) (hk : K es sz ty) : CallO P f S nm lv [] K := ⟨es, sz, ty, h, by simp, .inl rfl, hk⟩
theorem callO_dry {P : Program} {f : FuncId} {S : AState} {nm : Nat} {lv : List AV} {names : List Nat} {K : List (List AV) → Nat → TypeId → Prop} {es : List (List AV)} {sz : Nat} {ty : TypeId} (h : PureOwn P f lv es sz ty) (hn : nm ∉ names) (hd : ∀ y ∈ es, ∀ c ∈ y, Dry c) (hk : K es sz ty) : CallO P f S nm lv names K := ⟨es, sz, ty, h, hn, .inr hd, hk⟩

@[go_sem] theorem flat_v (x : Value) : (AV.v x).flat = true := rfl
@[go_sem] theorem flat_nils : AV.nils.flat = true := rfl
@[go_sem] theorem flat_sl (es : List (List AV)) : (AV.sl es).flat = true := rfl
@[go_sem] theorem flat_rp (es : List AV) : (AV.rp es).flat = true := rfl
@[go_sem] theorem all_cons {α : Type} (p : α → Prop) (x : α) (l : List α) : (∀ c ∈ x :: l, p c) = (p x ∧ ∀ c ∈ l, p c) := by simp
@[go_sem] theorem all_nil {α : Type} (p : α → Prop) : (∀ c ∈ ([] : List α), p c) = True := by simp

attribute [go_sem] Bool.true_and Bool.and_true Bool.false_and Bool.and_false Bool.true_or Bool.or_true Bool.false_or Bool.or_false List.flatMap_cons List.flatMap_nil

theorem Lower.str {h : Nat → Option Blk} {s s' : ByteArray} (he : s = s') : Lower h (.v (.string s)) (.v (.string s')) := by subst he; exact .same _ rfl
inductive All2 (R : AV → AV → Prop) : List AV → List AV → Prop
  | nil : All2 R [] []
  | cons {x y xs ys} : R x y → All2 R xs ys → All2 R (x :: xs) (y :: ys)
theorem lowerAll_agg {h : Nat → Option Blk} {cs cs' : List AV} (p : All2 (Lower h) cs cs') : cs.length = cs'.length ∧ ∀ j, j < cs.length → Lower h (av cs j) (av cs' j) := by
  induction p with
  | nil => exact ⟨rfl, fun j hj => by simp at hj⟩
  | cons h1 _ ih =>
    refine ⟨by simp [ih.1], fun j hj => ?_⟩
    cases j with
    | zero => exact h1
    | succ j => exact ih.2 j (by simpa using hj)
theorem Lower.aggF {h : Nat → Option Blk} {cs cs' : List AV} (p : All2 (Lower h) cs cs') : Lower h (.agg cs) (.agg cs') := .agg (lowerAll_agg p).1 (lowerAll_agg p).2
theorem Lower.tupF {h : Nat → Option Blk} {cs cs' : List AV} (p : All2 (Lower h) cs cs') : Lower h (.tup cs) (.tup cs') := .tup (lowerAll_agg p).1 (lowerAll_agg p).2

/-- A value that is there only if 'b'. -/
def opt (b : Bool) (x : AV) : AV := if b then x else .tup []
@[go_sem] theorem opt_t (x : AV) : opt true x = x := rfl
@[go_sem] theorem opt_f (x : AV) : opt false x = .tup [] := rfl
@[go_sem] theorem pick_and (c p : Bool) : effPick (.v (.bool c)) (opt c (.v (.bool p))) (.v (.bool false)) = ⟨True, .v (.bool (c && p)), [], []⟩ := by cases c <;> rfl
@[go_sem] theorem pick_or (c p : Bool) : effPick (.v (.bool c)) (.v (.bool true)) (opt (!c) (.v (.bool p))) = ⟨True, .v (.bool (c || p)), [], []⟩ := by cases c <;> rfl
/-- Is it wanted? -/
def wantB (want b : Bool) : Bool := if want then b else !b
@[go_sem] theorem wantB_t (b : Bool) : wantB true b = b := rfl
@[go_sem] theorem wantB_f (b : Bool) : wantB false b = !b := rfl
def gB (want : Bool) : AV → Option Bool
  | .v (.bool b) => some (wantB want b)
  | .tup [] => some false
  | _ => none
theorem gB_v (want b : Bool) : gB want (.v (.bool b)) = some (wantB want b) := rfl
theorem gB_opt (want c b : Bool) : gB want (opt c (.v (.bool b))) = some (c && wantB want b) := by cases c <;> rfl
theorem gB_u (want : Bool) : gB want (.tup []) = some false := rfl
attribute [go_sem] gB_v gB_opt gB_u

theorem Awp.sreg {P : Program} {n bs nx nx' : Nat} {S : AState} {Q : AExit → Nat → AState → Prop} {l : List AOper} {y : ACode} (hn : nx + l.length = nx') (hk : aops P l nx S fun S' => Awp P n bs y nx' S' Q) : Awp P n bs (.seq (.region false l) y) nx S Q := by
  subst hn; exact Awp.seq_region hk
theorem Awp.sdraw {P : Program} {n bs nx nx' : Nat} {S : AState} {Q : AExit → Nat → AState → Prop} {l : List AOper} {y : ACode} (hn : nx + l.length = nx') (hk : aopsL P l nx S [] fun S' es => drawOk (l.map (·.deps)) es = true ∧ Awp P n bs y nx' S' Q) : Awp P n bs (.seq (.region true l) y) nx S Q := by
  subst hn; exact Awp.seq_draw hk
theorem Awp.reg {P : Program} {n bs nx nx' : Nat} {S : AState} {Q : AExit → Nat → AState → Prop} {l : List AOper} (hn : nx + l.length = nx') (hk : aops P l nx S fun S' => Q .normal nx' S') : Awp P n bs (.region false l) nx S Q := by
  subst hn; exact Awp.region hk

theorem BView.boxF {hd : Nat → Option Blk} {ρ : Nat → Nat} {nx : Nat} {cs : List AV} (h : cs.all AV.flat = true) : BView hd ρ nx (.box cs) (.box cs) := .box rfl fun j hj => .low (.same _ (List.all_eq_true.1 h _ (av_mem hj)))
theorem BView.rowE {hd : Nat → Option Blk} {ρ : Nat → Nat} {nx : Nat} {es es' : List (List AV)} {sz : Nat} {e : TypeId} (h : es = es') : BView hd ρ nx (.row es sz e) (.row es' sz e) := by subst h; exact .row _ _ _
theorem BView.iterE {hd : Nat → Option Blk} {ρ : Nat → Nat} {nx : Nat} {s : ByteArray} {i j : Nat} (h : i = j) : BView hd ρ nx (.iter s i) (.iter s j) := by subst h; exact .iter _ _

@[go_sem] theorem str_empty (s : ByteArray) : (s.toList == ByteArray.toList ⟨⟨[]⟩⟩) = (s.size == 0) := by
  have h0 : ByteArray.toList ⟨⟨[]⟩⟩ = [] := by rw [ByteArray.toList_eq]
  have h1 : s.toList.length = s.size := by rw [ByteArray.toList_eq]; rfl
  rw [h0]
  cases h : s.toList with
  | nil => rw [h] at h1; simp at h1; simp [← h1]
  | cons a l => rw [h] at h1; simp at h1; simp [← h1]

theorem View.str {hd : Nat → Option Blk} {ρ : Nat → Nat} {nx : Nat} {x y : ByteArray} (e : x = y) : View hd ρ nx (.v (.string x)) (.v (.string y)) := by subst e; exact .low (.same _ rfl)
theorem op_callC_of {P : Program} {o : AOper} {r : List AOper} {nm : Nat} {S : AState} {K : AState → Prop} (h : aopsC P o r nm S K) : aops P (o :: r) nm S K := h
section steps
variable {P : Program} {d : Option Nat} {op : AOp} {deps : List Nat} {r : List AOper} {nm : Nat} {t : Nat → AV} {h : Nat → Option Blk} {K : AState → Prop} {p : Prop} {v : AV} {rd : List Nat}
theorem st_u {u : Upd} (he : op.eff P nm ⟨t, h⟩ default = ⟨p, v, u, rd⟩) (hc : op.isCall = false) (hp : p) (hk : aops P r (nm + 1) ⟨putT t d v, updL h u⟩ K) : aops P (⟨d, op, none, deps⟩ :: r) nm ⟨t, h⟩ K := by
  cases hch : op.choosy
  · rw [aops_op, hch, bcase_f, he]
    exact ⟨hp, hk⟩
  · exact aops_call (P := P) default hch (by rw [he]; exact hp) (by rw [he]; exact hk)
/-- A slice literal whose row nobody writes. -/
theorem st_full {e : TypeId} {sz : Nat} {ps : List AOpd} {es : List (List AV)} (hr : rowE ⟨t, h⟩ sz ps = (p, es)) (hn : ps ≠ []) (hp : p) (hk : aops P r (nm + 1) ⟨putT t d (.slf es sz e), h⟩ K) : aops P (⟨d, .buildSlice e sz ps, none, deps⟩ :: r) nm ⟨t, h⟩ K := by
  refine aops_call (P := P) ⟨.nils, [], []⟩ rfl ?_ ?_
  · simp only [AOp.eff, pickB, hr]
    exact ⟨hn, hp⟩
  · simp only [AOp.eff, pickB, hr]
    exact hk
theorem st_a {u : Upd} {h' : Nat → Option Blk} (he : op.eff P nm ⟨t, h⟩ default = ⟨p, v, u, rd⟩) (hc : op.isCall = false) (hu : updL h u = h') (hp : p) (hk : aops P r (nm + 1) ⟨putT t d v, h'⟩ K) : aops P (⟨d, op, none, deps⟩ :: r) nm ⟨t, h⟩ K := by
  subst hu; exact st_u he hc hp hk
theorem st_nil {S : AState} (hk : K S) : aops P [] nm S K := hk
theorem st_g {q : Nat} {want b : Bool} (hv : t q = .v (.bool b)) (h1 : b = want → aops P (⟨d, op, none, deps⟩ :: r) nm ⟨t, h⟩ K) (h2 : b = (!want) → aops P r (nm + 1) ⟨putT t d (.tup []), h⟩ K) : aops P (⟨d, op, some (q, want), deps⟩ :: r) nm ⟨t, h⟩ K := by
  rw [aops_g]; show gval (t q) _ _ _; rw [hv]; exact ⟨h1, h2⟩
theorem st_m {q : Nat} {want b : Bool} (hg : gB want (t q) = some b) (he : b = true → op.eff P nm ⟨t, h⟩ default = ⟨p, v, [], rd⟩) (hc : op.isCall = false) (hp : b = true → p) (hk : aops P r (nm + 1) ⟨putT t d (opt b v), h⟩ K) : aops P (⟨d, op, some (q, want), deps⟩ :: r) nm ⟨t, h⟩ K := by
  rw [aops_g]
  show gval (t q) _ _ _
  cases hx : t q with
  | v x =>
    rw [hx] at hg
    cases x with
    | bool c =>
      simp only [gB, Option.some.injEq] at hg
      subst hg
      refine ⟨fun e => ?_, fun e => ?_⟩
      · have hb : wantB want c = true := by subst e; cases c <;> rfl
        rw [hb] at hk
        exact st_u (he hb) hc (hp hb) hk
      · have hb : wantB want c = false := by subst e; cases want <;> rfl
        rw [hb] at hk
        exact hk
    | _ => cases hg
  | tup l =>
    rw [hx] at hg
    cases l with
    | nil =>
      simp only [gB, Option.some.injEq] at hg
      subst hg
      exact hk
    | cons a l => cases hg
  | _ => rw [hx] at hg; cases hg
theorem st_c {f : FuncId} {vs lv : List AV} {x : AV} (hc : callee ⟨t, h⟩ op = some (f, vs)) (hl : lows ⟨t, h⟩ vs = lv) (hn : hls ⟨t, h⟩ vs = []) (hp : Pure P f lv x) (hk : aops P r (nm + 1) ⟨putT t d x, h⟩ K) : aops P (⟨d, op, none, deps⟩ :: r) nm ⟨t, h⟩ K :=
  aops_low hc (by rw [hl, hn]; exact callP_nil hp hk)
theorem st_mc {q : Nat} {want b : Bool} {f : FuncId} {vs lv : List AV} {x : AV} (hop : op.isCall = true) (hg : gB want (t q) = some b) (hc : b = true → callee ⟨t, h⟩ op = some (f, vs)) (hl : b = true → lows ⟨t, h⟩ vs = lv) (hn : b = true → hls ⟨t, h⟩ vs = []) (hp : b = true → Pure P f lv x) (hk : aops P r (nm + 1) ⟨putT t d (opt b x), h⟩ K) : aops P (⟨d, op, some (q, want), deps⟩ :: r) nm ⟨t, h⟩ K := by
  rw [aops_g]
  show gval (t q) _ _ _
  cases hx : t q with
  | v x =>
    rw [hx] at hg
    cases x with
    | bool c =>
      simp only [gB, Option.some.injEq] at hg
      subst hg
      refine ⟨fun e => ?_, fun e => ?_⟩
      · have hb : wantB want c = true := by subst e; cases c <;> rfl
        rw [hb] at hk
        exact st_c (hc hb) (hl hb) (hn hb) (hp hb) hk
      · have hb : wantB want c = false := by subst e; cases want <;> rfl
        rw [hb] at hk
        exact hk
    | _ => cases hg
  | tup l =>
    rw [hx] at hg
    cases l with
    | nil =>
      simp only [gB, Option.some.injEq] at hg
      subst hg
      exact hk
    | cons a l => cases hg
  | _ => rw [hx] at hg; cases hg
theorem st_cc {f : FuncId} {vs : List AV} {x : AV} {hl : List (Nat × Blk)} {u : Upd} {h' : Nat → Option Blk} (hc : callee ⟨t, h⟩ op = some (f, vs)) (hcc : CallC P f vs hl nm x u) (hh : ∀ p ∈ hl, h p.1 = some p.2) (hu : ∀ p ∈ u, p.1 = nm ∨ p.1 ∈ hl.map (·.1)) (hm : nm ∉ hl.map (·.1)) (hw : updL h u = h') (hk : aops P r (nm + 1) ⟨putT t d x, h'⟩ K) : aops P (⟨d, op, none, deps⟩ :: r) nm ⟨t, h⟩ K := by
  subst hw
  obtain ⟨e1, e2⟩ := eff_callee (P := P) (nm := nm) (an := ⟨x, u, hl⟩) hc
  exact op_callC_of (aops_call ⟨x, u, hl⟩ (choosy_of_call e2) (by rw [e1]; exact ⟨hh, hu, hm, hcc⟩) (by rw [e1]; exact hk))
theorem st_cd {f : FuncId} {vs lv : List AV} {ns : List (Nat × Blk)} {x : AV} (hc : callee ⟨t, h⟩ op = some (f, vs)) (hl : lows ⟨t, h⟩ vs = lv) (hn : hls ⟨t, h⟩ vs = ns) (hp : Pure P f lv x) (hd : Dry x) (hm : nm ∉ ns.map (·.1)) (hk : aops P r (nm + 1) ⟨putT t d x, h⟩ K) : aops P (⟨d, op, none, deps⟩ :: r) nm ⟨t, h⟩ K :=
  aops_low hc (by rw [hl, hn]; exact callP_dry hp hm hd hk)
theorem st_co {f : FuncId} {vs lv : List AV} {es : List (List AV)} {sz : Nat} {ty : TypeId} (hc : callee ⟨t, h⟩ op = some (f, vs)) (hl : lows ⟨t, h⟩ vs = lv) (hn : hls ⟨t, h⟩ vs = []) (hp : PureOwn P f lv es sz ty) (hk : aops P r (nm + 1) ⟨putT t d (.own nm), upd h nm (some (.row es sz ty))⟩ K) : aops P (⟨d, op, none, deps⟩ :: r) nm ⟨t, h⟩ K :=
  aops_lowO hc (by rw [hl, hn]; exact callO_nil hp hk)
variable {KL : AState → List Ent → Prop} {es : List Ent}
theorem sl_u {u : Upd} (he : op.eff P nm ⟨t, h⟩ default = ⟨p, v, u, rd⟩) (hc : op.isCall = false) (hp : p) (hk : aopsL P r (nm + 1) ⟨putT t d v, updL h u⟩ (es ++ [⟨op.temps, rd, d, u.map (·.1)⟩]) KL) : aopsL P (⟨d, op, none, deps⟩ :: r) nm ⟨t, h⟩ es KL := by
  cases hch : op.choosy
  · rw [aopsL_op, hch, bcase_f, he]
    exact ⟨hp, hk⟩
  · exact aopsL_call (P := P) default hch (by rw [he]; exact hp) (by rw [he]; exact hk)
theorem sl_a {u : Upd} {h' : Nat → Option Blk} {l : List Nat} (he : op.eff P nm ⟨t, h⟩ default = ⟨p, v, u, rd⟩) (hc : op.isCall = false) (hu : updL h u = h') (hl : u.map (·.1) = l) (hp : p) (hk : aopsL P r (nm + 1) ⟨putT t d v, h'⟩ (es ++ [⟨op.temps, rd, d, l⟩]) KL) : aopsL P (⟨d, op, none, deps⟩ :: r) nm ⟨t, h⟩ es KL := by
  subst hu; subst hl; exact sl_u he hc hp hk
theorem sl_nil {S : AState} (hk : KL S es) : aopsL P [] nm S es KL := hk
theorem sl_g {q : Nat} {want b : Bool} (hb : op.isCall = false) (hv : t q = .v (.bool b)) {u : Upd} (he : b = want → op.eff P nm ⟨t, h⟩ default = ⟨p, v, u, rd⟩) (hp : b = want → p) (h1 : b = want → aopsL P r (nm + 1) ⟨putT t d v, updL h u⟩ (es ++ [⟨q :: op.temps, rd, d, u.map (·.1)⟩]) KL) (h2 : b = (!want) → aopsL P r (nm + 1) ⟨putT t d (.tup []), h⟩ (es ++ [⟨[q], [], d, []⟩]) KL) : aopsL P (⟨d, op, some (q, want), deps⟩ :: r) nm ⟨t, h⟩ es KL := by
  cases hch : op.choosy
  · rw [aopsL_g, hch, bcase_f]; show gval (t q) _ _ _; rw [hv]
    exact ⟨fun e => by rw [he e]; exact ⟨hp e, h1 e⟩, h2⟩
  · refine aopsL_callg (P := P) hch ?_
    show gval (t q) _ _ _
    rw [hv]
    exact ⟨fun e => ⟨default, by rw [he e]; exact hp e, by rw [he e]; exact h1 e⟩, h2⟩
theorem sl_gy {q : Nat} {want : Bool} (hb : op.isCall = false) (hv : t q = .v (.bool want)) {u : Upd} (he : op.eff P nm ⟨t, h⟩ default = ⟨p, v, u, rd⟩) (hp : p) (h1 : aopsL P r (nm + 1) ⟨putT t d v, updL h u⟩ (es ++ [⟨q :: op.temps, rd, d, u.map (·.1)⟩]) KL) : aopsL P (⟨d, op, some (q, want), deps⟩ :: r) nm ⟨t, h⟩ es KL :=
  sl_g hb hv (fun _ => he) (fun _ => hp) (fun _ => h1) (fun e => by cases want <;> cases e)
theorem sl_ga {q : Nat} {want : Bool} {h' : Nat → Option Blk} {l : List Nat} (hb : op.isCall = false) (hv : t q = .v (.bool want)) {u : Upd} (he : op.eff P nm ⟨t, h⟩ default = ⟨p, v, u, rd⟩) (hu : updL h u = h') (hl : u.map (·.1) = l) (hp : p) (h1 : aopsL P r (nm + 1) ⟨putT t d v, h'⟩ (es ++ [⟨q :: op.temps, rd, d, l⟩]) KL) : aopsL P (⟨d, op, some (q, want), deps⟩ :: r) nm ⟨t, h⟩ es KL := by
  subst hu; subst hl; exact sl_gy hb hv he hp h1
theorem sl_gn {q : Nat} {want b : Bool} (hv : t q = .v (.bool b)) (hbw : b = !want) (h2 : aopsL P r (nm + 1) ⟨putT t d (.tup []), h⟩ (es ++ [⟨[q], [], d, []⟩]) KL) : aopsL P (⟨d, op, some (q, want), deps⟩ :: r) nm ⟨t, h⟩ es KL := by
  cases hb : op.choosy
  · rw [aopsL_g, hb, bcase_f]; show gval (t q) _ _ _; rw [hv]
    refine gval_intro (fun e => ?_) (fun _ => h2)
    subst e; cases b <;> cases hbw
  · refine aopsL_callg (P := P) hb ?_
    show gval (t q) _ _ _
    rw [hv]
    refine gval_intro (fun e => ?_) (fun _ => h2)
    subst e; cases b <;> cases hbw
theorem sl_case {q : Nat} {want b : Bool} (hv : t q = .v (.bool b)) (h1 : b = want → aopsL P (⟨d, op, some (q, want), deps⟩ :: r) nm ⟨t, h⟩ es KL) (h2 : b = (!want) → aopsL P (⟨d, op, some (q, want), deps⟩ :: r) nm ⟨t, h⟩ es KL) : aopsL P (⟨d, op, some (q, want), deps⟩ :: r) nm ⟨t, h⟩ es KL := by
  cases b <;> cases want
  · exact h1 rfl
  · exact h2 rfl
  · exact h2 rfl
  · exact h1 rfl
theorem sl_c {f : FuncId} {vs lv : List AV} {x : AV} {ns : List (Nat × Blk)} (hc : callee ⟨t, h⟩ op = some (f, vs)) (hl : lows ⟨t, h⟩ vs = lv) (hn : hls ⟨t, h⟩ vs = ns) (hp : Pure P f lv x) (hd : ns = [] ∨ Dry x) (hm : nm ∉ ns.map (·.1)) (hk : aopsL P r (nm + 1) ⟨putT t d x, h⟩ (es ++ [⟨op.temps, ns.map (·.1), d, []⟩]) KL) : aopsL P (⟨d, op, none, deps⟩ :: r) nm ⟨t, h⟩ es KL :=
  aopsL_low hc (by rw [hl, hn]; exact ⟨x, hp, hm, hd.imp (fun e => by rw [e]; rfl) id, hk⟩)
theorem sl_co {f : FuncId} {vs lv : List AV} {ys : List (List AV)} {sz : Nat} {ty : TypeId} (hc : callee ⟨t, h⟩ op = some (f, vs)) (hl : lows ⟨t, h⟩ vs = lv) (hn : hls ⟨t, h⟩ vs = []) (hp : PureOwn P f lv ys sz ty) (hk : aopsL P r (nm + 1) ⟨putT t d (.own nm), upd h nm (some (.row ys sz ty))⟩ (es ++ [⟨op.temps, [], d, [nm]⟩]) KL) : aopsL P (⟨d, op, none, deps⟩ :: r) nm ⟨t, h⟩ es KL :=
  aopsL_lowO hc (by rw [hl, hn]; exact callO_nil hp hk)
theorem sl_cg {q : Nat} {want : Bool} {f : FuncId} {vs lv : List AV} {x : AV} {ns : List (Nat × Blk)} (hop : op.isCall = true) (hv : t q = .v (.bool want)) (hc : callee ⟨t, h⟩ op = some (f, vs)) (hl : lows ⟨t, h⟩ vs = lv) (hn : hls ⟨t, h⟩ vs = ns) (hp : Pure P f lv x) (hd : ns = [] ∨ Dry x) (hm : nm ∉ ns.map (·.1)) (hk : aopsL P r (nm + 1) ⟨putT t d x, h⟩ (es ++ [⟨q :: op.temps, ns.map (·.1), d, []⟩]) KL) : aopsL P (⟨d, op, some (q, want), deps⟩ :: r) nm ⟨t, h⟩ es KL :=
  aopsL_lowG hop hv (fun _ => ⟨f, vs, hc, by rw [hl, hn]; exact ⟨x, hp, hm, hd.imp (fun e => by rw [e]; rfl) id, hk⟩⟩) (fun e => by cases want <;> cases e)
end steps
end Go.Ab
end
section
set_option linter.unusedVariables false
set_option linter.unusedSimpArgs false
attribute [go_sem] Nat.reduceAdd Nat.reduceEqDiff Nat.reduceMul Nat.reduceLeDiff Nat.reduceLT Nat.reduceSub reduceIte reduceCtorEq Nat.reduceBEq Nat.reduceBNe Int.reduceToNat Int.reduceLT Int.reduceLE Int.reduceEq Int.reduceNe Int.reduceBEq Int.reduceBNe Int.reduceAdd Int.reduceSub Int.reduceNeg decide_true decide_false Bool.not_true Bool.not_false
namespace Go.Ab
@[go_sem] theorem eqAgg_a (neg : Bool) (ks : List Nat) (x y : List AV) : effEqAgg neg ks (.agg x) (.agg y) = ⟨(eqCells ks x y).1, .v (.bool (neg ^^ (eqCells ks x y).2)), [], []⟩ := rfl
@[go_sem] theorem eqCells_nil : eqCells [] [] [] = (True, true) := rfl
@[go_sem] theorem eqCells_cons (k : Nat) (ks : List Nat) (a b : AV) (x y : List AV) : eqCells (k :: ks) (a :: x) (b :: y) = ((eqCell k a b).1 ∧ (eqCells ks x y).1, (eqCell k a b).2 && (eqCells ks x y).2) := rfl
@[go_sem] theorem eqCell_i (k k' : IntKind) (a b : Int) : eqCell 0 (.v (.int k a)) (.v (.int k' b)) = (k = k', a == b) := rfl
@[go_sem] theorem eqCell_b (a b : Bool) : eqCell 1 (.v (.bool a)) (.v (.bool b)) = (True, a == b) := rfl
@[go_sem] theorem eqCell_s (a b : ByteArray) : eqCell 2 (.v (.string a)) (.v (.string b)) = (True, a.toList == b.toList) := rfl
@[go_sem] theorem idxPtr_bp (len sz b o : Nat) (k : IntKind) (n : Int) : effIdxPtr len sz (.v (.int k n)) (.bp b o) = ⟨0 ≤ n ∧ n < len, .bp b (o + n.toNat * sz), [], []⟩ := rfl
@[go_sem] theorem idxPtr_rp (len sz : Nat) (cs : List AV) (k : IntKind) (n : Int) : effIdxPtr len sz (.v (.int k n)) (.rp cs) = ⟨0 ≤ n ∧ n < len ∧ n.toNat * sz < cs.length, .rp (cs.drop (n.toNat * sz)), [], []⟩ := rfl
end Go.Ab
example : (if 2 + 3 = 5 then 1 else 2) = 1 := by simp only [go_sem]
end
section
set_option linter.unusedVariables false
set_option linter.unusedSimpArgs false
namespace Go.Ab
/-- A piece of a code. -/
def ACode.sub : List Nat → ACode → ACode
  | 0 :: p, .seq a _ => a.sub p
  | _ :: p, .seq _ b => b.sub p
  | 0 :: p, .cond _ a _ => a.sub p
  | _ :: p, .cond _ _ b => b.sub p
  | _ :: p, .block _ c => c.sub p
  | _ :: p, .loop c => c.sub p
  | _ :: p, .scope c => c.sub p
  | _, c => c
end Go.Ab
end
section
set_option linter.unusedVariables false
set_option linter.unusedSimpArgs false
namespace Go.Ab

def bitsOf (acc : List Nat) : List Nat → Nat
  | [] => 0
  | j :: r => 2 ^ j ||| acc.getD j 0 ||| bitsOf acc r
def masks : List (List Nat) → List Nat → List Nat
  | [], acc => acc
  | d :: r, acc => masks r (acc ++ [bitsOf acc d])
def chk (e : Ent) (m : Nat) : List Ent → Nat → Bool
  | [], _ => true
  | x :: r, j => (m.testBit j || freeE x e) && chk e m r (j + 1)
def chkAll : List Ent → List Ent → List Nat → Bool
  | _, [], _ => true
  | pre, e :: r, m :: ms => chk e m pre 0 && chkAll (pre ++ [e]) r ms
  | _, _ :: _, [] => false
def drawOk' (deps : List (List Nat)) (es : List Ent) : Bool := depsLow deps 0 && chkAll [] es (masks deps [])

theorem bitsOf_spec {acc : List Nat} {accL : List (List Nat)} (h : ∀ i j, (acc.getD i 0).testBit j = true → j ∈ accL.getD i []) : ∀ (d : List Nat) (j : Nat), (bitsOf acc d).testBit j = true → j ∈ d ++ d.flatMap fun k => accL.getD k []
  | [], j, hj => by simp [bitsOf] at hj
  | k :: r, j, hj => by
    simp only [bitsOf, Nat.testBit_or, Bool.or_eq_true] at hj
    simp only [List.mem_append, List.mem_cons, List.flatMap_cons]
    rcases hj with (hj | hj) | hj
    · rw [Nat.testBit_two_pow] at hj
      exact .inl (.inl (by simpa using (of_decide_eq_true hj).symm))
    · exact .inr (.inl (h k j hj))
    · rcases List.mem_append.1 (bitsOf_spec h r j hj) with h1 | h1
      · exact .inl (.inr h1)
      · exact .inr (.inr h1)

theorem masks_spec : ∀ (deps : List (List Nat)) (acc : List Nat) (accL : List (List Nat)), acc.length = accL.length → (∀ i j, (acc.getD i 0).testBit j = true → j ∈ accL.getD i []) →
    ∀ i j, ((masks deps acc).getD i 0).testBit j = true → j ∈ (befs deps accL).getD i []
  | [], _, _, _, h => h
  | d :: r, acc, accL, hl, h => by
    refine masks_spec r _ _ (by simp [hl]) fun i j hj => ?_
    simp only [List.getD_eq_getElem?_getD] at hj ⊢
    by_cases hi : i < acc.length
    · rw [List.getElem?_append_left hi] at hj
      rw [List.getElem?_append_left (by omega)]
      have := h i j (by simpa [List.getD_eq_getElem?_getD] using hj)
      simpa [List.getD_eq_getElem?_getD] using this
    · by_cases e : i = acc.length
      · subst e
        simp only [List.getElem?_append_right (Nat.le_refl _), Nat.sub_self, List.getElem?_cons_zero, Option.getD_some] at hj
        rw [hl, List.getElem?_append_right (Nat.le_refl _)]
        simp only [Nat.sub_self, List.getElem?_cons_zero, Option.getD_some]
        have := bitsOf_spec h d j hj
        simpa [List.getD_eq_getElem?_getD] using this
      · rw [List.getElem?_eq_none (by simp; omega)] at hj
        simp at hj

theorem chk_spec {e : Ent} {m : Nat} : ∀ (pre : List Ent) (o : Nat), chk e m pre o = true → ∀ j, j < pre.length → (m.testBit (o + j) || freeE (pre.getD j default) e) = true
  | x :: r, o, h, j, hj => by
    simp only [chk, Bool.and_eq_true] at h
    match j with
    | 0 => exact h.1
    | j + 1 =>
      have := chk_spec r (o + 1) h.2 j (by simpa using hj)
      rwa [show o + 1 + j = o + (j + 1) by omega] at this

theorem chkAll_spec : ∀ (es pre : List Ent) (ms : List Nat), chkAll pre es ms = true → ∀ i, i < es.length → ∀ j, j < pre.length + i →
    ((ms.getD i 0).testBit j || freeE ((pre ++ es).getD j default) (es.getD i default)) = true
  | e :: r, pre, m :: ms, h, i, hi, j, hj => by
    simp only [chkAll, Bool.and_eq_true] at h
    match i with
    | 0 =>
      have := chk_spec pre 0 h.1 j (by omega)
      rw [Nat.zero_add] at this
      have e1 : (pre ++ e :: r).getD j default = pre.getD j default := by
        simp only [List.getD_eq_getElem?_getD]; rw [List.getElem?_append_left (by omega)]
      rw [e1]
      exact this
    | i + 1 =>
      have := chkAll_spec r (pre ++ [e]) ms h.2 i (by simpa using hi) j (by simp; omega)
      rw [List.append_assoc] at this
      exact this
  | _ :: _, _, [], h, _, _, _, _ => by simp [chkAll] at h

theorem drawOk_of {deps : List (List Nat)} {es : List Ent} (h : drawOk' deps es = true) : drawOk deps es = true := by
  simp only [drawOk', Bool.and_eq_true] at h
  simp only [drawOk, Bool.and_eq_true, List.all_eq_true, List.mem_range]
  refine ⟨h.1, fun i hi j hj => ?_⟩
  have h1 := chkAll_spec es [] _ h.2 i hi j (by simpa using hj)
  rw [List.nil_append] at h1
  rcases Bool.or_eq_true_iff.1 h1 with h2 | h2
  · have := masks_spec deps [] [] rfl (fun i j h => by simp at h) i j h2
    rw [Bool.or_eq_true]
    exact .inl (by simpa using this)
  · rw [Bool.or_eq_true]; exact .inr h2
end Go.Ab
end
section
set_option linter.unusedVariables false
set_option linter.unusedSimpArgs false
namespace Go.Ab

inductive CView (ns : List Nat) (ρ : Nat → Nat) : AV → AV → Prop
  | low {x y} (h : Lower (fun _ => none) x y) : CView ns ρ x y
  | agg {cs cs'} (hl : cs.length = cs'.length) (hr : ∀ j, j < cs.length → CView ns ρ (av cs j) (av cs' j)) : CView ns ρ (.agg cs) (.agg cs')
  | tup {cs cs'} (hl : cs.length = cs'.length) (hr : ∀ j, j < cs.length → CView ns ρ (av cs j) (av cs' j)) : CView ns ρ (.tup cs) (.tup cs')
  | fn {f cs cs'} (hl : cs.length = cs'.length) (hr : ∀ j, j < cs.length → CView ns ρ (av cs j) (av cs' j)) : CView ns ρ (.fn f cs) (.fn f cs')
  | own {b n} (hb : ρ n = b) (hn : n ∈ ns) : CView ns ρ (.own b) (.own n)
  | pre {b n k} (hb : ρ n = b) (hn : n ∈ ns) : CView ns ρ (.pre b k) (.pre n k)
  | bp {b n o} (hb : ρ n = b) (hn : n ∈ ns) : CView ns ρ (.bp b o) (.bp n o)
  | ep {b n sz i o} (hb : ρ n = b) (hn : n ∈ ns) : CView ns ρ (.ep b sz i o) (.ep n sz i o)

inductive CBView (ns : List Nat) (ρ : Nat → Nat) : Blk → Blk → Prop
  | box {cs cs'} (hl : cs.length = cs'.length) (hr : ∀ j, j < cs.length → CView ns ρ (av cs j) (av cs' j)) : CBView ns ρ (.box cs) (.box cs')
  | row {es es' sz e} (h : es = es') : CBView ns ρ (.row es sz e) (.row es' sz e)
  | iter (s pos) : CBView ns ρ (.iter s pos) (.iter s pos)

theorem CView.sound {st st' : Nat → Prop} {β β' : Nat → Value} {w : World} {ns : List Nat} {ρ : Nat → Nat} (hst : ∀ g, st g → st' g) (hn : ∀ n, n ∈ ns → β' n = β (ρ n)) {x y : AV}
    (p : CView ns ρ x y) : ∀ {c}, SimV st β w x c → SimV st' β' w y c := by
  induction p with
  | low h => exact fun s => .pure (h.sound (β := β) (st := st) (fun n b hb => by simp at hb) hst (fun n b g hb => by simp at hb) s)
  | agg hlen hr ih =>
    intro c s
    obtain ⟨xs, rfl, h1, h2, h3⟩ := s.agg_inv
    exact .agg _ xs (by omega) h2 fun j hj => ih j (by omega) (h3 j (by omega))
  | tup hlen hr ih =>
    intro c s
    obtain ⟨xs, rfl, h1, h3⟩ := s.tup_inv
    exact .tup _ xs (by omega) fun j hj => ih j (by omega) (h3 j (by omega))
  | fn hlen hr ih =>
    intro c s
    obtain ⟨xs, rfl, h1, h3⟩ := s.fn_inv
    exact .fn _ _ xs (by omega) fun j hj => ih j (by omega) (h3 j (by omega))
  | @own b n hbn hm =>
    intro c s
    obtain ⟨h1, a, m, cap, rfl⟩ := s.own_inv
    exact .own n (by rw [hn n hm, hbn]; exact h1.symm)
  | @pre b n k hbn hm =>
    intro c s
    obtain ⟨a, m, cap, cap', h1, rfl, h2, h3⟩ := s.pre_inv
    exact .pre n k (by rw [hn n hm, hbn]; exact h1) h2 h3
  | @bp b n o hbn hm =>
    intro c s
    obtain ⟨g, h1, rfl⟩ := s.bp_inv
    exact .bp n o (by rw [hn n hm, hbn]; exact h1)
  | @ep b n sz i o hbn hm =>
    intro c s
    obtain ⟨g, m, cap, h1, rfl⟩ := s.ep_inv
    exact .ep n sz i o (by rw [hn n hm, hbn]; exact h1)

theorem CBView.sound {st st' : Nat → Prop} {β β' : Nat → Value} {w : World} {ns : List Nat} {ρ : Nat → Nat} (hst : ∀ g, st g → st' g) (hn : ∀ n, n ∈ ns → β' n = β (ρ n)) {x y : Blk}
    (p : CBView ns ρ x y) {c : Value} (s : BlkRep st β w x c) : BlkRep st' β' w y c := by
  cases p with
  | box hl hv =>
    obtain ⟨g, ty, xs, f1, f2, f3, f4, f5⟩ := s
    exact ⟨g, ty, xs, f1, f2, by omega, f4, fun j hj => (hv j (by omega)).sound hst hn (f5 j (by omega))⟩
  | row e =>
    subst e
    obtain ⟨xs, f1, f2, f3, f4, f5⟩ := s
    exact ⟨xs, f1, f2, f3, f4, fun i j hi hj => (f5 i j hi hj).mono fun g hg => ⟨hst g hg, rfl⟩⟩
  | iter q p => exact s

def rn (nm m k : Nat) : Nat := if k = nm then m else k

theorem updL_none {α : Type} {f : Nat → Option α} : ∀ {u : List (Nat × Option α)} {k : Nat} {b : α}, updL f u k = some b → (∃ b', f k = some b') ∨ k ∈ u.map (·.1)
  | [], _, b, h => .inl ⟨b, h⟩
  | (i, x) :: u, k, b, h => by
    rcases updL_none (u := u) h with ⟨b', hb⟩ | h'
    · by_cases e : k = i
      · exact .inr (by simp [e])
      · simp only [upd, if_neg e] at hb; exact .inl ⟨b', hb⟩
    · exact .inr (by simp [h'])

theorem BlkRep.ne {st : Nat → Prop} {β : Nat → Value} {w : World} {b : Blk} {c : Value} (h : BlkRep st β w b c) : c ≠ undef := by
  cases b with
  | box cs => obtain ⟨g, ty, xs, rfl, _⟩ := h; simp [undef]
  | row es sz e =>
    obtain ⟨xs, _, _, hr, _⟩ := h
    rcases hr with ⟨a, rfl, _⟩ | ⟨g', cap, rfl, _⟩ <;> simp [undef]
  | iter s pos => obtain ⟨g, rfl, _⟩ := h; simp [undef]

variable {P : Program} {f : FuncId} {fn : Func} {ac : ACode} {n : Nat} {rs : List ResultVar} {args : List AV}

theorem fn_cc (F : FnFacts P f fn ac n rs) (hn : args.length ≤ n) {hl : List (Nat × Blk)} {ups : Upd} {nm bs : Nat} {r : AV} (hlb : ∀ p ∈ hl, p.1 < bs) (hnm : nm ∉ hl.map (·.1))
    (hu : ∀ p ∈ ups, p.1 = nm ∨ p.1 ∈ hl.map (·.1)) (hall : ∀ p ∈ hl, p.1 ∈ ups.map (·.1)) (hbx : ∀ p ∈ hl, CBView (hl.map (·.1)) id p.2 p.2) (ha : ∀ j, j < args.length → CView (hl.map (·.1)) id (av args j) (av args j))
    (h : Awp P n bs ac bs ⟨fun t => av args t, listH hl⟩ fun e _ S => (e = .normal ∨ e = .ret) ∧ resSide P S rs ∧ ∃ m, bs ≤ m ∧
      CView (nm :: hl.map (·.1)) (rn nm m) (resV (resVals P S rs)) r ∧ ∀ k b', updL (listH hl) ups k = some b' → ∃ blk, S.h (rn nm m k) = some blk ∧ CBView (nm :: hl.map (·.1)) (rn nm m) blk b') :
    CallC P f args hl nm r ups := by
  obtain ⟨code, hbody, hcomp⟩ := F.code
  refine ⟨F.callable, fun prov β w cs hβ hb hinj hv => ?_⟩
  refine calls_of_wp F.at_ hbody ?_
  rw [F.nt]
  have hmem : ∀ k b, listH hl k = some b → k ∈ hl.map (·.1) := fun k b hk => List.mem_map.2 ⟨_, listH_mem hk, rfl⟩
  have hmem' : ∀ k, k ∈ hl.map (·.1) → k < bs := fun k hk => by obtain ⟨p, hp, rfl⟩ := List.mem_map.1 hk; exact hlb p hp
  have hdef : ∀ k, k ∈ hl.map (·.1) → β k ≠ undef := fun k hk => by
    have : ∃ b, listH hl k = some b := by
      clear hb hinj hv h ha hbx hall hu hnm hlb hmem hmem'
      induction hl with
      | nil => simp at hk
      | cons p hl ih =>
        simp only [listH]
        by_cases e : k = p.1
        · exact ⟨p.2, by rw [if_pos e]⟩
        · rw [if_neg e]; exact ih (by simpa [e] using hk)
    obtain ⟨b, hkb⟩ := this
    exact (hb k b hkb).ne
  let β0 : Nat → Value := fun k => if k ∈ hl.map (·.1) then β k else undef
  have β0_at : ∀ k, k ∈ hl.map (·.1) → β0 k = β k := fun k hk => if_pos hk
  let E : Entry := { w0 := w, β0 := β0, prov := prov, may := fun g => ∃ k b, listH hl k = some b ∧ blkOf (β k) = some g, n := n }
  have hfit : E.fits bs := ⟨fun k hk => if_neg fun h' => by have := hmem' k h'; omega, fun h0 g ⟨k, b, hk, _⟩ => by have := hmem' k (hmem k b hk); omega⟩
  have hst0 : ∀ g, stb prov w β (listH hl) g → E.st w β0 (listH hl) g := fun g ⟨h1, h2, h3⟩ => ⟨h1, .inl h2, fun k b hk => by rw [β0_at k (hmem k b hk)]; exact h3 k b hk⟩
  have s0 : Sim E (fun k => bs ≤ k) ⟨fun t => av args t, listH hl⟩ β0 { tmps := cs.toArray ++ Array.replicate (n - cs.toArray.size) undef, defers := [] } w := by
    refine ⟨fun t => ?_, ?_, rfl, fun k b hk => ?_, fun k m b b' g hk hm hg hg' => ?_, fun k hk => hfit.1 k hk, fun k b g hk hg => .inl ⟨k, b, hk, ?_⟩, rfl, rfl, rfl, Nat.le_refl _, fun _ _ _ => rfl, fun _ _ => rfl⟩
    · by_cases ht : t < args.length
      · have h1 := hv.2 t ht
        have e : (cs.toArray ++ Array.replicate (n - cs.toArray.size) undef).getD t undef = cv cs t := by
          have hl : t < cs.length := by rw [← hv.1]; exact ht
          rw [Array.getD_eq_getD_getElem?, Array.getElem?_append_left (by simpa using hl)]
          simp [cv, List.getD_eq_getElem?_getD]
        show SimV _ _ _ _ ((cs.toArray ++ Array.replicate (n - cs.toArray.size) undef).getD t undef)
        rw [e]
        exact (ha t ht).sound hst0 (fun k hk => β0_at k hk) h1
      · have : av args t = .any := by simp [av, List.getD_eq_getElem?_getD, Nat.le_of_not_lt ht]
        show SimV _ _ _ (av args t) _
        rw [this]
        exact .pure (.any _)
    · have := hv.1
      simp
      show _ = n
      omega
    · have h1 := hb k b hk
      rw [β0_at k (hmem k b hk)]
      exact (hbx _ (listH_mem hk)).sound hst0 (fun k hk => β0_at k hk) h1
    · change blkOf (β0 k) = some g at hg
      change blkOf (β0 m) = some g at hg'
      rw [β0_at k (hmem k b hk)] at hg
      rw [β0_at m (hmem m b' hm)] at hg'
      exact hinj k m b b' g hk hm hg hg'
    · rw [β0_at k (hmem k b hk)] at hg; exact hg
  refine h code hcomp F.ok F.mixed E _ _ w rfl hfit s0 _ fun e nx S βs a w' ⟨he, hs, m, hm, hrv, hbs⟩ s => ?_
  obtain ⟨c, hc, hv'⟩ := results_run (f := fn) s (by rw [F.rseq]; exact F.res) (by rw [F.rseq]; exact hs)
  rw [F.rseq] at hv'
  let β2 : Nat → Value := fun k => if k = nm then βs m else β k
  have hag : ∀ k, k ∈ nm :: hl.map (·.1) → β2 k = βs (rn nm m k) := by
    intro k hk
    by_cases e : k = nm
    · simp only [β2, rn, if_pos e]
    · have hk' : k ∈ hl.map (·.1) := by simpa [e] using hk
      simp only [β2, rn, if_neg e]
      have := s.grow k (by show β0 k ≠ undef; rw [β0_at k hk']; exact hdef k hk')
      rw [this]
      exact (β0_at k hk').symm
  have hdom : ∀ k b, updL (listH hl) ups k = some b → k ∈ nm :: hl.map (·.1) := by
    intro k b hk
    rcases updL_none hk with ⟨b', hb'⟩ | h'
    · exact List.mem_cons.2 (.inr (hmem k b' hb'))
    · obtain ⟨p, hp, rfl⟩ := List.mem_map.1 h'
      rcases hu p hp with e | e
      · exact List.mem_cons.2 (.inl e)
      · exact List.mem_cons.2 (.inr e)
  have hst2 : ∀ g, E.st w' βs S.h g → stb (fun g => prov g ∨ w.heap.size ≤ g) w' β2 (updL (listH hl) ups) g := by
    intro g ⟨h1, h2, h3⟩
    refine ⟨h1, h2, fun k b hk => ?_⟩
    obtain ⟨blk, hblk, _⟩ := hbs k b hk
    rw [hag k (hdom k b hk)]
    exact h3 _ _ hblk
  have fin : a.defers = [] ∧ ∃ v, (results fn a.tmps).run P w' = .ok v w' ∧ ∃ c β', Ending.returned v = .returned c ∧ w'.os = w.os ∧ w'.tape = w.tape ∧ w'.output = w.output ∧ w.heap.size ≤ w'.heap.size ∧ Grows β β' ∧ (∀ n, n ≠ nm → β' n = β n) ∧
      (∀ g, g < w.heap.size → (∀ n b, listH hl n = some b → n ∈ ups.map (·.1) → blkOf (β n) ≠ some g) → w'.heap[g]? = w.heap[g]?) ∧
      SimV (stb (fun g => prov g ∨ w.heap.size ≤ g) w' β' (updL (listH hl) ups)) β' w' r c ∧
      (∀ n b, updL (listH hl) ups n = some b → n ∈ ups.map (·.1) → BlkRep (stb (fun g => prov g ∨ w.heap.size ≤ g) w' β' (updL (listH hl) ups)) β' w' b (β' n) ∧
        ∀ g, blkOf (β' n) = some g → w.heap.size ≤ g ∨ ∃ m b', listH hl m = some b' ∧ m ∈ ups.map (·.1) ∧ blkOf (β m) = some g) ∧
      Inj β' (updL (listH hl) ups) := by
    refine ⟨s.df, c, hc, c, β2, rfl, s.os, s.tape, s.out, s.size, fun k hk => ?_, fun k hk => if_neg hk, fun g hg hno => s.keep g hg fun ⟨k, b, hk, hg'⟩ => ?_, hrv.sound hst2 hag hv', fun k b hk hku => ?_, fun k k' b b' g hk hk' hg hg' => ?_⟩
    · by_cases e : k = nm
      · subst e; exact absurd hβ hk
      · simp only [β2, if_neg e]
    · obtain ⟨p, hp, e⟩ := List.mem_map.1 (hmem k b hk)
      exact hno k b hk (e ▸ hall p hp) hg'
    · obtain ⟨blk, hblk, hv2⟩ := hbs k b hk
      rw [hag k (hdom k b hk)]
      refine ⟨hv2.sound hst2 hag (s.bl _ _ hblk), fun g hg => ?_⟩
      rcases s.mine _ _ g hblk hg with ⟨k', b', h1, h2⟩ | h1
      · obtain ⟨p, hp, e⟩ := List.mem_map.1 (hmem k' b' h1)
        exact .inr ⟨k', b', h1, e ▸ hall p hp, h2⟩
      · exact .inl h1
    · obtain ⟨blk, hblk, _⟩ := hbs k b hk
      obtain ⟨blk', hblk', _⟩ := hbs k' b' hk'
      rw [hag k (hdom k b hk)] at hg
      rw [hag k' (hdom k' b' hk')] at hg'
      have e := s.inj _ _ _ _ g hblk hblk' hg hg'
      have h1 := hdom k b hk
      have h2 := hdom k' b' hk'
      simp only [rn] at e
      by_cases e1 : k = nm <;> by_cases e2 : k' = nm
      · rw [e1, e2]
      · rw [if_pos e1, if_neg e2] at e
        have := hmem' k' (by simpa [e2] using h2)
        omega
      · rw [if_neg e1, if_pos e2] at e
        have := hmem' k (by simpa [e1] using h1)
        omega
      · rw [if_neg e1, if_neg e2] at e; exact e
  rcases he with rfl | rfl <;> exact fin
end Go.Ab
end
section
set_option linter.unusedVariables false
set_option linter.unusedSimpArgs false
namespace Go.Ab
open Go.RowKit

theorem Ghost.nameBox {bs nx : Nat} {S : AState} (c sz : Nat) (e : TypeId) (hc : S.h c = some (.box [.nils])) (h0 : 0 < sz) : Ghost bs nx S (nx + 1) ⟨S.t, upd (upd S.h c (some (.box [.own nx]))) nx (some (.row [] sz e))⟩ := by
  intro E β a w hE s
  obtain ⟨g0, ty, xs, f1, f2, f3, f4, f5⟩ := s.bl c _ hc
  have hv := f5 0 (by simp)
  simp only [av_zero] at hv
  obtain ⟨ad, hcv⟩ := hv.nils_inv
  have hβ : β nx = undef := s.fresh nx (Nat.le_refl _)
  have hcn : c ≠ nx := fun e => by subst e; exact (s.bl c _ hc).ne hβ
  have hg : Grows β (upd β nx (.slice ad 0 0)) := fun n hn => by
    unfold upd; split
    · rename_i h; subst h; exact absurd hβ hn
    · rfl
  have hb0 : ∀ g, blkOf (Value.slice ad 0 0) ≠ some g := fun g => by cases ad <;> simp [blkOf]
  have hs := s.step (fr' := fun k => nx + 1 ≤ k) (S' := ⟨S.t, upd (upd S.h c (some (.box [.own nx]))) nx (some (.row [] sz e))⟩) (β' := upd β nx (.slice ad 0 0)) (a' := a) (w' := w) (fun g => blkOf (β c) = some g) (fun g h => ⟨c, _, hc, h⟩) rfl rfl rfl (Nat.le_refl _) (fun _ _ _ => rfl) hg
    (fun n hn => by unfold upd; rw [if_neg (by omega)]; exact s.fresh n (by omega)) (fun n b hb => ?_) ?_ rfl s.df (fun hst => fun q => (s.tm q).mono hg hst)
  · exact ⟨_, hs⟩
  · simp only [upd] at hb
    split at hb
    · rename_i h; subst h
      simp only [Option.some.injEq] at hb; subst hb
      refine .inr ⟨fun _ => ?_, fun g hg => by simp only [upd, if_true] at hg; exact absurd hg (hb0 g)⟩
      simp only [upd, if_true]
      exact ⟨[], by simp, h0, .inl ⟨ad, rfl, rfl, rfl⟩, by simp, fun i j hi => by simp at hi⟩
    · rename_i hnn
      split at hb
      · rename_i h; subst h
        simp only [Option.some.injEq] at hb; subst hb
        refine .inr ⟨fun hst => ?_, fun g hg => .inr (by simp only [upd, if_neg hnn] at hg; exact hg)⟩
        simp only [upd, if_neg hnn]
        refine ⟨g0, ty, xs, f1, f2, by simpa using f3, f4, fun j hj => ?_⟩
        have : j = 0 := by simp at hj; omega
        subst this
        rw [hcv]
        simp only [av_zero]
        exact .own nx (by simp [upd])
      · rename_i hnc
        refine .inl ⟨hb, fun g hg hg' => hnc (s.inj n c _ _ g hb hc hg hg')⟩
  · intro n m b1 b2 g h1 h2 g1 g2
    simp only [upd] at h1 h2 g1 g2
    by_cases e1 : n = nx
    · rw [if_pos e1] at g1; exact absurd g1 (hb0 g)
    · by_cases e2 : m = nx
      · rw [if_pos e2] at g2; exact absurd g2 (hb0 g)
      · simp only [if_neg e1, if_neg e2] at h1 h2 g1 g2
        have k1 : ∃ b, S.h n = some b := by
          split at h1
          · rename_i h; exact ⟨_, h ▸ hc⟩
          · exact ⟨_, h1⟩
        have k2 : ∃ b, S.h m = some b := by
          split at h2
          · rename_i h; exact ⟨_, h ▸ hc⟩
          · exact ⟨_, h2⟩
        obtain ⟨_, k1⟩ := k1
        obtain ⟨_, k2⟩ := k2
        exact s.inj n m _ _ g k1 k2 g1 g2
theorem BView.own1 {hd : Nat → Option Blk} {ρ : Nat → Nat} {nx b n : Nat} (hb : ρ n = b) (hn : n < nx) : BView hd ρ nx (.box [.own b]) (.box [.own n]) :=
  .box rfl fun j hj => by match j, hj with | 0, _ => exact .own hb hn
end Go.Ab
end
section
set_option linter.unusedVariables false
set_option linter.unusedSimpArgs false
namespace Go.Ab
open Go
theorem st_cod {P : Program} {d : Option Nat} {op : AOp} {deps : List Nat} {r : List AOper} {nm : Nat} {t : Nat → AV} {h : Nat → Option Blk} {K : AState → Prop} {f : FuncId} {vs lv : List AV} {ns : List (Nat × Blk)} {es : List (List AV)} {sz : Nat} {ty : TypeId} (hc : callee ⟨t, h⟩ op = some (f, vs)) (hl : lows ⟨t, h⟩ vs = lv) (hn : hls ⟨t, h⟩ vs = ns) (hp : PureOwn P f lv es sz ty) (hd : ∀ y ∈ es, ∀ c ∈ y, Dry c) (hm : nm ∉ ns.map (·.1)) (hk : aops P r (nm + 1) ⟨putT t d (.own nm), upd h nm (some (.row es sz ty))⟩ K) : aops P (⟨d, op, none, deps⟩ :: r) nm ⟨t, h⟩ K :=
  aops_lowO hc (by rw [hl, hn]; exact callO_dry hp hm hd hk)
end Go.Ab
end
section
set_option linter.unusedVariables false
set_option linter.unusedSimpArgs false
namespace Go.Ab
open Go.RowKit
theorem lk_out {α : Type} {d : α} : ∀ {l : List (Nat × α)} {n : Nat}, n ∉ l.map (·.1) → lk d l n = d
  | [], _, _ => rfl
  | (k, x) :: l, n, h => by
    simp only [List.map_cons, List.mem_cons, not_or] at h
    simp only [lk]
    rw [if_neg h.1]
    exact lk_out h.2
theorem Ghost.mkB {bs nx nx' : Nat} {S : AState} {ts : List (Nat × AV)} {hs : List (Nat × Blk)} (ns : List (Nat × Nat)) (hnb : (ns.all fun p => decide (bs ≤ p.1)) = true) (hbx : bs ≤ nx')
    (hinj : (hs.all fun p => hs.all fun q => ren ns p.1 != ren ns q.1 || p.1 == q.1) = true)
    (hV : AllV S (deadH S []) (ren ns) nx' ts) (hB : AllB S (deadH S []) (ren ns) nx' hs) : Ghost bs nx S nx' (mkS ts hs) := by
  refine Ghost.view (ren ns) (deadH S []) (fun n hn => ⟨lk_out fun h => ?_, by omega⟩) (fun b blk hb => by simp [deadH] at hb) (allV_spec hV) (allB_spec hB) (fun n m b b' hb hb' he => ?_)
  · obtain ⟨p, hp, rfl⟩ := List.mem_map.1 h
    have := List.all_eq_true.1 hnb p hp
    simp only [decide_eq_true_eq] at this
    omega
  · have h1 := List.all_eq_true.1 hinj _ (listH_mem hb)
    have h2 := List.all_eq_true.1 h1 _ (listH_mem hb')
    simp only [Bool.or_eq_true, bne_iff_ne, ne_eq, beq_iff_eq] at h2
    rcases h2 with h2 | h2
    · exact absurd he h2
    · exact h2
theorem CallC.ownPre {P : Program} {f : FuncId} {args : List AV} {hl : List (Nat × Blk)} {nm b : Nat} {ups : List (Nat × Option Blk)} {es : List (List AV)} {sz : Nat} {e : TypeId} (h : CallC P f args hl nm (.own b) ups)
    (hu : updL (listH hl) ups b = some (.row es sz e)) (hm : b ∈ ups.map (·.1)) : CallC P f args hl nm (.pre b es.length) ups := by
  refine ⟨h.1, fun prov β w cs h1 h2 h3 h4 => (h.2 prov β w cs h1 h2 h3 h4).mono ?_⟩
  rintro e' w' ⟨c, β', he, a1, a2, a3, a4, a5, a6, a7, hv, a8, a9⟩
  obtain ⟨e1, ad, n, cap, e2⟩ := hv.own_inv
  obtain ⟨xs, hf⟩ := (a8 b _ hu hm).1
  rw [← e1, e2] at hf
  obtain ⟨hn, hnc, hcm, _⟩ := row_cap hf
  refine ⟨c, β', he, a1, a2, a3, a4, a5, a6, a7, ?_, a8, a9⟩
  rw [e2, hn]
  exact .pre b _ (n := n) (by rw [← e1, e2]) (by omega) hcm
theorem BView.lowO {hd : Nat → Option Blk} {ρ : Nat → Nat} {nx b : Nat} {es es' : List (List AV)} {sz : Nat} {e : TypeId} (hb : hd b = some (.row es sz e)) (he : es = es') : BView hd ρ nx (.box [.own b]) (.box [.sl es']) :=
  .box rfl fun j hj => by match j, hj with | 0, _ => exact .low (he ▸ Lower.own hb)
theorem BView.fn0 {hd : Nat → Option Blk} {ρ : Nat → Nat} {nx g : Nat} : BView hd ρ nx (.box [.fn g []]) (.box [.fn g []]) :=
  .box rfl fun j hj => by match j, hj with | 0, _ => exact .fn rfl fun j hj => by simp at hj
theorem View.fn6 {hd : Nat → Option Blk} {ρ : Nat → Nat} {nx f a b c d e g a' b' c' d' e' g' : Nat} (ha : ρ a' = a) (hb : ρ b' = b) (hc : ρ c' = c) (hd' : ρ d' = d) (he : ρ e' = e) (hg : ρ g' = g) (h : a' < nx ∧ b' < nx ∧ c' < nx ∧ d' < nx ∧ e' < nx ∧ g' < nx) :
    View hd ρ nx (.fn f [.bp a 0, .bp b 0, .bp c 0, .bp d 0, .bp e 0, .bp g 0]) (.fn f [.bp a' 0, .bp b' 0, .bp c' 0, .bp d' 0, .bp e' 0, .bp g' 0]) :=
  .fn rfl fun j hj => by match j, hj with | 0, _ => exact .bp ha h.1 | 1, _ => exact .bp hb h.2.1 | 2, _ => exact .bp hc h.2.2.1 | 3, _ => exact .bp hd' h.2.2.2.1 | 4, _ => exact .bp he h.2.2.2.2.1 | 5, _ => exact .bp hg h.2.2.2.2.2
theorem sl_cc {P : Program} {d : Option Nat} {op : AOp} {deps : List Nat} {r : List AOper} {nm : Nat} {t : Nat → AV} {h : Nat → Option Blk} {es : List Ent} {KL : AState → List Ent → Prop} {f : FuncId} {vs : List AV} {x : AV} {hl : List (Nat × Blk)} {u : List (Nat × Option Blk)} {h' : Nat → Option Blk}
    (hc : callee ⟨t, h⟩ op = some (f, vs)) (hcc : CallC P f vs hl nm x u) (hh : ∀ p ∈ hl, h p.1 = some p.2) (hu : ∀ p ∈ u, p.1 = nm ∨ p.1 ∈ hl.map (·.1)) (hm : nm ∉ hl.map (·.1)) (hw : updL h u = h')
    (hk : aopsL P r (nm + 1) ⟨putT t d x, h'⟩ (es ++ [⟨op.temps, hl.map (·.1), d, u.map (·.1)⟩]) KL) : aopsL P (⟨d, op, none, deps⟩ :: r) nm ⟨t, h⟩ es KL := by
  subst hw
  obtain ⟨e1, e2⟩ := eff_callee (P := P) (nm := nm) (an := ⟨x, u, hl⟩) hc
  exact aopsL_call ⟨x, u, hl⟩ (choosy_of_call e2) (by rw [e1]; exact ⟨hh, hu, hm, hcc⟩) (by rw [e1]; exact hk)
end Go.Ab
end
section
set_option linter.unusedVariables false
set_option linter.unusedSimpArgs false
namespace Go.Ab
open Go.RowKit
section
variable {P : Program} {d : Option Nat} {op : AOp} {deps : List Nat} {r : List AOper} {nm : Nat} {t : Nat → AV} {h : Nat → Option Blk} {es : List Ent} {KL : AState → List Ent → Prop}
theorem sl_cod {f : FuncId} {vs lv : List AV} {ns : List (Nat × Blk)} {ys : List (List AV)} {sz : Nat} {ty : TypeId} (hc : callee ⟨t, h⟩ op = some (f, vs)) (hl : lows ⟨t, h⟩ vs = lv) (hn : hls ⟨t, h⟩ vs = ns) (hp : PureOwn P f lv ys sz ty)
    (hd : ∀ y ∈ ys, ∀ c ∈ y, Dry c) (hm : nm ∉ ns.map (·.1)) (hk : aopsL P r (nm + 1) ⟨putT t d (.own nm), upd h nm (some (.row ys sz ty))⟩ (es ++ [⟨op.temps, ns.map (·.1), d, [nm]⟩]) KL) : aopsL P (⟨d, op, none, deps⟩ :: r) nm ⟨t, h⟩ es KL := by
  subst hn
  exact aopsL_lowO hc (by rw [hl]; exact callO_dry hp hm hd hk)
end
end Go.Ab
end
section
set_option linter.unusedVariables false
set_option linter.unusedSimpArgs false
namespace Go.Ab
open Go.RowKit
open Go
def PureTwo (P : Program) (f : FuncId) (args : List AV) (es : List (List AV)) (sz : Nat) (ty : TypeId) (y : Value) : Prop :=
  Callable P f ∧ ∀ (ok : Nat → Prop) (w : World) (cs : List Value), PArgs ok w args cs →
    Calls P f cs.toArray w fun e w' => ∃ c, e = .returned (.tuple #[c, y]) ∧ Keeps w w' ∧ (∃ a n cap, c = .slice a n cap) ∧ (∃ xs, RowFits (fun g => g < w'.heap.size ∧ (ok g ∨ w.heap.size ≤ g) ∧ blkOf c ≠ some g) w' es sz ty c xs) ∧ ∀ g, blkOf c = some g → w.heap.size ≤ g
section use
variable {P : Program} {f : FuncId} {args args' : List AV} {hl : List (Nat × Blk)} {nm : Nat}
theorem CallC.two {es : List (List AV)} {sz : Nat} {ty : TypeId} {y : Value} (h : PureTwo P f args' es sz ty y) (hlen : args.length = args'.length) (hlow : ∀ j, j < args.length → Lower (listH hl) (av args j) (av args' j)) (hnm : nm ∉ hl.map (·.1)) (hd : hl = [] ∨ ∀ y ∈ es, ∀ c ∈ y, Dry c) :
    CallC P f args hl nm (.tup [.own nm, .v y]) [(nm, some (.row es sz ty))] := by
  refine ⟨h.1, fun prov β w cs hn hb hi hv => ?_⟩
  refine (h.2 _ w cs (lower_args hb hv hlen hlow)).mono fun e w' ⟨c, he, hk, ⟨a, m, cap, hc⟩, ⟨xs, hf⟩, hnew⟩ => ?_
  have hg : Grows β (upd β nm c) := fun k hk => by
    unfold upd; split
    · rename_i h; subst h; exact absurd hn hk
    · rfl
  have hlk : ∀ n, updL (listH hl) [(nm, some (Blk.row es sz ty))] n = if n = nm then some (.row es sz ty) else listH hl n := fun n => rfl
  have hne : ∀ n b, listH hl n = some b → n ≠ nm := fun n b h e => hnm (by subst e; exact List.mem_map.2 ⟨_, listH_mem h, rfl⟩)
  refine ⟨.tuple #[c, y], upd β nm c, he, hk.os, hk.tape, hk.out, hk.size, hg, fun n hn' => by simp [upd, hn'], fun g hg _ => hk.heap g hg, ?_, fun n b hb' hm => ?_, ?_⟩
  · subst hc
    refine .tup [.own nm, .v y] [_, y] rfl fun j hj => ?_
    match j, hj with
    | 0, _ => exact .own nm (by simp [upd, cv])
    | 1, _ => exact .pure (.v _)
  · have hm' : n = nm := by simpa using hm
    rw [hm'] at hb' ⊢
    rw [hlk, if_pos rfl] at hb'
    simp at hb'
    subst hb'
    simp only [upd, if_true]
    refine ⟨⟨xs, hf.z, hf.pos, hf.row, hf.one, fun i j hi' hj => ?_⟩, fun g hg => .inl (hnew g hg)⟩
    have hp := hf.cell i j hi' hj
    rcases hd with rfl | hd
    · refine hp.mono fun g ⟨h1, h2, h3⟩ => ⟨⟨h1, h2.imp (fun h => h.elim id fun ⟨n, b, h3, _⟩ => by simp [listH] at h3) id, fun n b hb' => ?_⟩, rfl⟩
      rw [hlk] at hb'
      by_cases hnn : n = nm
      · rw [hnn]; simp only [upd, if_true]; exact h3
      · rw [if_neg hnn] at hb'; simp [listH] at hb'
    · have hel : es.getD i [] ∈ es := by simp [List.getD_eq_getElem?_getD, hi']
      exact (hd _ hel _ (av_mem (by rw [hf.z _ hel]; exact hj))).mono hp
  · intro n m b b' g h1 h2 g1 g2
    rw [hlk] at h1 h2
    by_cases e1 : n = nm <;> by_cases e2 : m = nm
    · rw [e1, e2]
    · rw [if_neg e2] at h2
      simp only [upd, if_pos e1, if_neg e2] at g1 g2
      have := hnew g g1
      have := (hb m b' h2).lt g2
      omega
    · rw [if_neg e1] at h1
      simp only [upd, if_neg e1, if_pos e2] at g1 g2
      have := hnew g g2
      have := (hb n b h1).lt g1
      omega
    · rw [if_neg e1] at h1
      rw [if_neg e2] at h2
      simp only [upd, if_neg e1, if_neg e2] at g1 g2
      exact hi n m b b' g h1 h2 g1 g2
end use
section fns
variable {P : Program} {f : FuncId} {fn : Func} {ac : ACode} {n : Nat} {rs : List ResultVar} {args : List AV}
theorem fn_two (F : FnFacts P f fn ac n rs) (hn : args.length ≤ n) {es : List (List AV)} {sz : Nat} {ty : TypeId} {y : Value}
    (h : Awp P n 0 ac 0 (S0 args) fun e _ S => (e = .normal ∨ e = .ret) ∧ resSide P S rs ∧ ∃ b, resV (resVals P S rs) = .tup [.own b, .v y] ∧ S.h b = some (.row es sz ty)) : PureTwo P f args es sz ty y := by
  obtain ⟨code, hbody, hcomp⟩ := F.code
  refine ⟨F.callable, fun ok w cs ha => ?_⟩
  refine calls_of_wp F.at_ hbody ?_
  rw [F.nt]
  have s0 := sim_start ha n hn
  refine h code hcomp F.ok F.mixed { w0 := w, β0 := fun _ => undef, prov := ok, may := fun _ => False, n := n } _ _ w rfl ⟨fun _ _ => rfl, fun _ _ h => h⟩ s0 _ fun e nx S β a w' ⟨he, hs, b, hb, hB⟩ s => ?_
  obtain ⟨c, hc, hv⟩ := results_run (f := fn) s (by rw [F.rseq]; exact F.res) (by rw [F.rseq]; exact hs)
  rw [F.rseq] at hv
  rw [hb] at hv
  obtain ⟨xs, hcx, hxl, hxr⟩ := hv.tup_inv
  match xs, hxl with
  | [c1, c2], _ =>
  have h0 := hxr 0 (by simp)
  have h1 := hxr 1 (by simp)
  simp only [av_zero, av_succ, cv, List.getD_cons_zero, List.getD_cons_succ] at h0 h1
  have hy : c2 = y := h1.v_inv
  rw [hy] at hcx
  obtain ⟨hcβ, ad, m, cap, hcs⟩ := h0.own_inv
  have fin : a.defers = [] ∧ ∃ v, (results fn a.tmps).run P w' = .ok v w' ∧ ∃ c, Ending.returned v = .returned (.tuple #[c, y]) ∧ Keeps w w' ∧ (∃ a n cap, c = .slice a n cap) ∧
      (∃ xs, RowFits (fun g => g < w'.heap.size ∧ (ok g ∨ w.heap.size ≤ g) ∧ blkOf c ≠ some g) w' es sz ty c xs) ∧ ∀ g, blkOf c = some g → w.heap.size ≤ g := by
    refine ⟨s.df, c, hc, c1, by rw [hcx], ⟨s.os, s.tape, s.out, s.size, fun g hg => s.keep g hg id⟩, ⟨_, _, _, hcs⟩, ?_, fun g hg => ?_⟩
    · obtain ⟨xs, hf⟩ := s.bl b _ hB
      rw [← hcβ] at hf
      exact ⟨xs, hf.z, hf.pos, hf.row, hf.one, fun i j hi hj => (hf.cell i j hi hj).mono fun g hg => ⟨⟨hg.1, hg.2.1, by rw [hcβ]; exact hg.2.2 b _ hB⟩, rfl⟩⟩
    · rw [hcβ] at hg
      rcases s.mine b _ g hB hg with h | h
      · exact h.elim
      · exact h
  rcases he with rfl | rfl <;> exact fin
end fns
theorem callT_of {P : Program} {f : FuncId} {S : AState} {nm : Nat} {vs : List AV} {es : List (List AV)} {sz : Nat} {ty : TypeId} {y : Value} (h1 : PureTwo P f (lows S vs) es sz ty y) (h2 : nm ∉ (hls S vs).map (·.1)) (h3 : (hls S vs).map (·.1) = [] ∨ ∀ y ∈ es, ∀ c ∈ y, Dry c) :
    (effCall P S nm ⟨.tup [.own nm, .v y], [(nm, some (.row es sz ty))], hls S vs⟩ f vs).side := by
  have hs : ∀ p ∈ hls S vs, S.h p.1 = some p.2 := fun p hp => by
    obtain ⟨x, _, hx⟩ := List.mem_flatMap.1 hp
    exact hlOf_spec S.h 8 x p hx
  refine ⟨hs, fun p hp => by simp at hp; exact .inl (by rw [hp]), h2, CallC.two h1 (by simp [lows]) (fun j hj => ?_) h2 (h3.imp (fun e => by simpa using e) id)⟩
  have e : av (lows S vs) j = low S.h 8 (av vs j) := by simp [lows, av, List.getD_eq_getElem?_getD, hj]
  rw [e]
  exact lower_low S.h hs 8 _ fun p hp => List.mem_flatMap.2 ⟨_, av_mem hj, hp⟩
theorem st_ct {P : Program} {d : Option Nat} {op : AOp} {deps : List Nat} {r : List AOper} {nm : Nat} {t : Nat → AV} {h : Nat → Option Blk} {K : AState → Prop} {f : FuncId} {vs lv : List AV} {ns : List (Nat × Blk)} {es : List (List AV)} {sz : Nat} {ty : TypeId} {y : Value} (hc : callee ⟨t, h⟩ op = some (f, vs)) (hl : lows ⟨t, h⟩ vs = lv) (hn : hls ⟨t, h⟩ vs = ns) (hp : PureTwo P f lv es sz ty y) (hd : ns = [] ∨ ∀ y ∈ es, ∀ c ∈ y, Dry c) (hm : nm ∉ ns.map (·.1)) (hk : aops P r (nm + 1) ⟨putT t d (.tup [.own nm, .v y]), upd h nm (some (.row es sz ty))⟩ K) : aops P (⟨d, op, none, deps⟩ :: r) nm ⟨t, h⟩ K := by
  subst hl; subst hn
  obtain ⟨e1, e2⟩ := eff_callee (P := P) (nm := nm) (an := ⟨.tup [.own nm, .v y], [(nm, some (.row es sz ty))], hls ⟨t, h⟩ vs⟩) hc
  exact aops_call (P := P) ⟨.tup [.own nm, .v y], [(nm, some (.row es sz ty))], hls ⟨t, h⟩ vs⟩ (choosy_of_call e2) (by rw [e1]; exact callT_of hp hm (hd.imp (fun e => by rw [e]; rfl) id)) (by rw [e1]; exact hk)
end Go.Ab
end
section
set_option linter.unusedVariables false
set_option linter.unusedSimpArgs false
namespace Go.Ab
open Go.ChangeShapes Go.WideShapes Go.RowKit

theorem Keeps.below {W W' : World} (h : Keeps W W') : Below W.heap.size W W' := ⟨h.os, h.tape, h.out, h.size, h.heap⟩

section
variable {H : Type} {enc : TypeId × Value → H} {P : Program}

theorem trodAll_keeps (hl : laidOutB P = true) {W W' : World} {sp : Nat → Bool} (hb : Below W.heap.size W W') :
    ∀ {ts : List TypeId} {vs : List Value} {ds : List (DataW H)} {ps : List MemPlace}, (∀ t ∈ ts, P.readableRec t = true ∧ t < P.types.size) → (∀ x ∈ ps, x.block < W.heap.size) → (∀ x ∈ ps, sp x.block = true) →
      DataW.TrodAll enc P W 0 (fun _ => true) true ts vs ds ps → DataW.TrodAll enc P W' 0 sp true ts vs ds ps
  | [], _, _, _, _, _, _, h => by
    obtain ⟨rfl, rfl, rfl⟩ := trodAll_nil h
    exact trodAll_mk0
  | t :: ts, _, _, _, hts, hlt, hsp, h => by
    obtain ⟨v, vs, d, ds, a, b, rfl, rfl, rfl, h1, h2⟩ := trodAll_cons h
    obtain ⟨hr, hrow⟩ := hts t (List.mem_cons.2 (.inl rfl))
    refine trodAll_cons_mk (WideElems.Trod_stays hl hr hrow h1 (fun x hx => hb.same (hlt x ?_)) (fun x hx => hsp x ?_)) (trodAll_keeps hl hb (fun u hu => hts u (List.mem_cons.2 (.inr hu))) (fun x hx => hlt x ?_) (fun x hx => hsp x ?_) h2)
    all_goals simp [hx]

theorem post_true {f : Func} {s : ChangeSpec} {apart fresh handsOn again : Bool} {W W' : World} {args : Array Value} {ds gs : List (DataW H)} {before : List MemPlace} {tb : TypeId}
    (hl : laidOutB P = true) (htb' : (f.params.toList.all fun t => P.readableRec t && decide (t < P.types.size)) = true) (hrt : f.resultTypes = #[tb]) (htb : P.underlying tb = some .bool) (hs : s.vars = [])
    (hW : DataW.Whole enc P f.params.toList s.vars apart W args.toList ds gs before) (hb : Below W.heap.size W W')
    (hf : (s.fn H (ds ++ gs)).results = [.lit (.bool true)] ∧ (s.fn H (ds ++ gs)).args = ds ∧ (s.fn H (ds ++ gs)).vars = []) :
    s.post enc P f apart fresh handsOn again W args (.bool true) W' := by
  have hts : ∀ t ∈ f.params.toList, P.readableRec t = true ∧ t < P.types.size := fun t ht => by simpa using List.all_eq_true.1 htb' t ht
  have hW' := hW
  obtain ⟨p, q, hA, hV, hpq, hz, hn⟩ := hW
  have hV0 : gs = [] ∧ q = [] := by rw [hs] at hV; exact trodVars_none hV
  obtain ⟨rfl, rfl⟩ := hV0
  obtain rfl : before = p := by simpa using hpq
  obtain ⟨f1, f2, f3⟩ := hf
  have hlt : ∀ x ∈ before, x.block < W.heap.size := fun x hx => hW'.lt x hx
  have hargs : ∀ sp : Nat → Bool, (∀ x ∈ before, sp x.block = true) → DataW.TrodAll enc P W' 0 sp true f.params.toList args.toList (s.fn H (ds ++ [])).args before := fun sp hsp => by
    rw [f2]; exact trodAll_keeps hl hb hts hlt hsp hA
  have hvars : ∀ sp : Nat → Bool, DataW.TrodVars enc P W' sp s.vars (s.fn H (ds ++ [])).vars [] := fun sp => by rw [f3, hs]; rfl
  have hres : ∀ (b : Nat) (sp : Nat → Bool) (hd : Bool), DataW.TrodAll enc P W' b sp hd f.resultTypes.toList ((Value.bool true).resultList f.resultTypes.size) (s.fn H (ds ++ [])).results [] := fun b sp hd => by
    rw [f1, hrt]; exact trodAll_cons_mk (shut_bool htb _) trodAll_mk0
  have hold : ∀ x ∈ before, (fun b => decide (b < W.heap.size)) x.block = true := fun x hx => by simpa using hlt x hx
  refine ⟨ds, [], before, [], before, [], hW', hres _ _ _, hargs _ hold, hvars _, World.keptBut_mono (fun x hx => ⟨hx, .inr (by simpa using hx)⟩) (hb.frame (· ∈ before)), fun _ => ⟨?_, _, _, ([] ++ before) ++ [], ⟨[] ++ before, [], trodAll_append (hargs _ fun _ _ => rfl) (hres _ _ _), hvars _, rfl, ?_, ?_⟩, ?_⟩⟩
  · exact ok_one hrt rfl (okWide_bool_mk htb _)
  · intro b off hp
    have hp' : MemPlace.cell b off ∈ before := by simpa using hp
    rw [hb.frozen (p := ⟨b, off, none⟩) (hlt _ hp')]
    exact hz b off hp'
  · intro ha
    simpa using hn ha
  · intro x hx _
    simpa using hx

theorem pargs3 {w : World} {a0 a1 a2 : AV} {c0 c1 c2 : Value} (h0 : PureV (fun g => g < w.heap.size ∧ True) w a0 c0) (h1 : PureV (fun g => g < w.heap.size ∧ True) w a1 c1) (h2 : PureV (fun g => g < w.heap.size ∧ True) w a2 c2) : PArgs (fun _ => True) w [a0, a1, a2] [c0, c1, c2] :=
  ⟨rfl, fun j hj => by match j, hj with | 0, _ => exact h0 | 1, _ => exact h1 | 2, _ => exact h2⟩
/-- A contract that says 'true', at a call whose arguments read so: the row's 'post'. -/
theorem calls_true {f : Func} {fid : FuncId} {s : ChangeSpec} {apart fresh handsOn again : Bool} {W : World} {asz : List AV} {cs : List Value} {ds gs : List (DataW H)} {before : List MemPlace} {tb : TypeId}
    (hl : laidOutB P = true) (htb' : (f.params.toList.all fun t => P.readableRec t && decide (t < P.types.size)) = true) (hrt : f.resultTypes = #[tb]) (htb : P.underlying tb = some .bool) (hs : s.vars = [])
    (hW : DataW.Whole enc P f.params.toList s.vars apart W cs.toArray.toList ds gs before) (hf : (s.fn H (ds ++ gs)).results = [.lit (.bool true)] ∧ (s.fn H (ds ++ gs)).args = ds ∧ (s.fn H (ds ++ gs)).vars = [])
    (hc : Pure P fid asz (.v (.bool true))) (ha : PArgs (fun _ => True) W asz cs) :
    Calls P fid cs.toArray W fun e W' => ∃ v, e = .returned v ∧ s.post enc P f apart fresh handsOn again W cs.toArray v W' := by
  refine (hc.2 _ W cs ha).mono fun e W' ⟨c, he, hk, hv⟩ => ?_
  obtain rfl : c = .bool true := by cases hv; rfl
  exact ⟨_, he, post_true hl htb' hrt htb hs hW hk.below hf⟩
end
end Go.Ab
end
section
set_option linter.unusedVariables false
set_option linter.unusedSimpArgs false
namespace Go.Ab
open Go.ChangeShapes Go.WideShapes Go.RowKit

/-- Fields that lie one behind the other. -/
def tiledTo (P : Program) (off : Nat) : List Field → Nat → Bool
  | [], e => off == e
  | f :: fs, e => f.offset == off && tiledTo P (off + P.cellsOf f.type) fs e

def readsTy (P : Program) : Nat → TypeId → Bool
  | 0, _ => false
  | n + 1, t => match P.underlying t with
    | some (.int _) | some .bool | some .string => P.cellsOf t == 1
    | some (.struct fs) => tiledTo P 0 fs.toList (P.cellsOf t) && fs.toList.all fun f => readsTy P n f.type
    | some (.slice e) => P.cellsOf t == 1 && decide (0 < P.cellsOf e) && readsTy P n e
    | some (.array k e) => P.cellsOf t == k * P.cellsOf e && readsTy P n e
    | _ => false

def FieldsShape (S : TypeId → List AV → Prop) : List TypeId → List AV → Prop
  | [], asz => asz = []
  | t :: ts, asz => ∃ p q, asz = p ++ q ∧ S t p ∧ FieldsShape S ts q

/-- The cells of a value of a type. -/
def Shape (P : Program) : Nat → TypeId → List AV → Prop
  | 0, _, _ => False
  | n + 1, t, asz => match P.underlying t with
    | some (.int k) => ∃ i, asz = [.v (.int k i)] ∧ (Lit.int k i).wf = true
    | some .bool => ∃ b, asz = [.v (.bool b)]
    | some .string => ∃ s : ByteArray, asz = [.v (.string s)] ∧ s.size ≤ maxLen
    | some (.struct fs) => FieldsShape (Shape P n) (fs.toList.map (·.type)) asz
    | some (.slice e) => ∃ es, asz = [.sl es] ∧ es.length ≤ maxLen ∧ ∀ r ∈ es, Shape P n e r
    | some (.array k e) => ∃ rs : List (List AV), asz = rs.flatten ∧ rs.length = k ∧ ∀ r ∈ rs, Shape P n e r
    | _ => False

theorem av_append_left {p q : List AV} {j : Nat} (h : j < p.length) : av (p ++ q) j = av p j := by
  simp [av, List.getD_eq_getElem?_getD, List.getElem?_append_left h]
theorem av_append_right {p q : List AV} {j : Nat} (h : p.length ≤ j) : av (p ++ q) j = av q (j - p.length) := by
  simp [av, List.getD_eq_getElem?_getD, List.getElem?_append_right h]
theorem cv_piece {cs : List Value} {o k j : Nat} (h : j < k) : cv ((cs.drop o).take k) j = cv cs (o + j) := by
  simp [cv, List.getD_eq_getElem?_getD, List.getElem?_take_of_lt h, List.getElem?_drop]

theorem lists {α : Type} {Q : Nat → α → Prop} : ∀ (n : Nat), (∀ i, i < n → ∃ a, Q i a) → ∃ l : List α, l.length = n ∧ ∀ i a, l[i]? = some a → Q i a
  | 0, _ => ⟨[], rfl, fun i a h => by simp at h⟩
  | n + 1, h => by
    obtain ⟨l, hl, hq⟩ := lists n fun i hi => h i (by omega)
    obtain ⟨a, ha⟩ := h n (by omega)
    refine ⟨l ++ [a], by simp [hl], fun i b hb => ?_⟩
    rcases Nat.lt_or_ge i n with hi | hi
    · rw [List.getElem?_append_left (by omega)] at hb; exact hq i b hb
    · rw [List.getElem?_append_right (by omega)] at hb
      by_cases e : i - l.length = 0
      · rw [e] at hb
        obtain rfl : a = b := by simpa using hb
        obtain rfl : i = n := by omega
        exact ha
      · rw [List.getElem?_eq_none (by simp; omega)] at hb; simp at hb

def CellsOk (w : World) (asz : List AV) (cs : List Value) (o : Nat) : Prop :=
  ∀ j, j < asz.length → PureV (fun g => g < w.heap.size) w (av asz j) (cv cs (o + j)) ∧ (cv cs (o + j)).oneCell' = true

theorem CellsOk.append {w : World} {p q : List AV} {cs : List Value} {o : Nat} (h1 : CellsOk w p cs o) (h2 : CellsOk w q cs (o + p.length)) : CellsOk w (p ++ q) cs o := by
  intro j hj
  rcases Nat.lt_or_ge j p.length with h | h
  · rw [av_append_left h]; exact h1 j h
  · rw [av_append_right h]
    have := h2 (j - p.length) (by simp at hj; omega)
    rwa [show o + p.length + (j - p.length) = o + j by omega] at this

section
variable {H : Type} {enc : TypeId × Value → H} {P : Program} {w : World} {spare : Nat → Bool} {held : Bool}

theorem read_fields {S : TypeId → List AV → Prop} {cs : List Value} : ∀ (fs : List Field) (o e : Nat), tiledTo P o fs e = true → e ≤ cs.length →
    (∀ f ∈ fs, ∃ asz, S f.type asz ∧ asz.length = P.cellsOf f.type ∧ CellsOk w asz cs f.offset) → ∃ asz, FieldsShape S (fs.map (·.type)) asz ∧ o + asz.length = e ∧ CellsOk w asz cs o
  | [], o, e, ht, _, _ => ⟨[], rfl, by simpa [tiledTo] using ht, fun j hj => by simp at hj⟩
  | f :: fs, o, e, ht, he, hf => by
    simp only [tiledTo, Bool.and_eq_true, beq_iff_eq] at ht
    obtain ⟨p, hp, hpl, hpc⟩ := hf f (List.mem_cons.2 (.inl rfl))
    obtain ⟨q, hq, hql, hqc⟩ := read_fields fs _ e ht.2 he fun g hg => hf g (List.mem_cons.2 (.inr hg))
    rw [ht.1] at hpc
    rw [← hpl] at hqc hql
    exact ⟨p ++ q, ⟨p, q, rfl, hp, hq⟩, by simp; omega, hpc.append hqc⟩

theorem read_rows {S : List AV → Prop} {cs : List Value} {sz : Nat} : ∀ (k o : Nat),
    (∀ i, i < k → ∃ asz, S asz ∧ asz.length = sz ∧ CellsOk w asz cs (o + i * sz)) → ∃ rs : List (List AV), rs.length = k ∧ (∀ r ∈ rs, S r) ∧ rs.flatten.length = k * sz ∧ CellsOk w rs.flatten cs o
  | 0, o, _ => ⟨[], rfl, by simp, by simp, fun j hj => by simp at hj⟩
  | k + 1, o, h => by
    obtain ⟨p, hp, hpl, hpc⟩ := h 0 (by omega)
    obtain ⟨rs, hl, hs, hf, hc⟩ := read_rows k (o + sz) fun i hi => by
      obtain ⟨asz, h1, h2, h3⟩ := h (i + 1) (by omega)
      exact ⟨asz, h1, h2, by rwa [show o + sz + i * sz = o + (i + 1) * sz by rw [Nat.add_mul]; omega]⟩
    refine ⟨p :: rs, by simp [hl], fun r hr => ?_, by simp [hf, hpl, Nat.add_mul, Nat.add_comm], ?_⟩
    · rcases List.mem_cons.1 hr with rfl | hr
      · exact hp
      · exact hs r hr
    · simp only [List.flatten_cons]
      refine CellsOk.append (by simpa using hpc) (by rw [hpl]; exact hc)

theorem read_ty : ∀ (n : Nat) (t : TypeId), readsTy P n t = true → ∀ {fuel : Nat} {cs : List Value} {x : DataW H × List MemPlace}, DataW.trod enc P w 0 spare held fuel t cs = some x →
    cs.length = P.cellsOf t ∧ ∃ asz, Shape P n t asz ∧ asz.length = cs.length ∧ CellsOk w asz cs 0
  | 0, t, ht, _, _, _, _ => by simp [readsTy] at ht
  | n + 1, t, ht, fuel, cs, x, h => by
    unfold readsTy at ht
    unfold Shape
    split at ht
    · rename_i k hu
      obtain ⟨i, rfl, _, hw⟩ := DataW.trod_int hu h
      exact ⟨by simpa using (by simpa using ht : P.cellsOf t = 1).symm, _, ⟨i, rfl, hw⟩, rfl, fun j hj => by match j, hj with | 0, _ => exact ⟨.v _, rfl⟩⟩
    · rename_i hu
      obtain ⟨b, rfl, _⟩ := DataW.trod_bool hu h
      exact ⟨by simpa using (by simpa using ht : P.cellsOf t = 1).symm, _, ⟨b, rfl⟩, rfl, fun j hj => by match j, hj with | 0, _ => exact ⟨.v _, rfl⟩⟩
    · rename_i hu
      obtain ⟨s, rfl, _, hw⟩ := DataW.trod_string hu h
      exact ⟨by simpa using (by simpa using ht : P.cellsOf t = 1).symm, _, ⟨s, rfl, hw⟩, rfl, fun j hj => by match j, hj with | 0, _ => exact ⟨.v _, rfl⟩⟩
    · rename_i fs hu
      simp only [Bool.and_eq_true, List.all_eq_true] at ht
      obtain ⟨xs, m, _, _, hl, hlen, hf⟩ := DataW.trod_struct hu h
      refine ⟨hl, ?_⟩
      obtain ⟨asz, h1, h2, h3⟩ := read_fields (S := Shape P n) (w := w) (cs := cs) fs.toList 0 (P.cellsOf t) ht.1 (by omega) fun f hfm => by
        obtain ⟨i, hi, hfi⟩ := List.getElem_of_mem hfm
        have hi' : i < fs.size := by simpa using hi
        have e1 : fs[i]? = some f := by rw [Array.getElem?_eq_getElem hi']; simpa using hfi
        have h4 := hf i f e1
        obtain ⟨y, hy⟩ : ∃ y, xs[i]? = some y := ⟨_, List.getElem?_eq_getElem (by omega)⟩
        rw [hy] at h4
        obtain ⟨k1, asz, k2, k3, k4⟩ := read_ty n f.type (ht.2 f hfm) h4
        refine ⟨asz, k2, by omega, fun j hj => ?_⟩
        have := k4 j hj
        rw [Nat.zero_add, cv_piece (by omega)] at this
        exact this
      exact ⟨asz, h1, by omega, h3⟩
    · rename_i e hu
      simp only [Bool.and_eq_true, decide_eq_true_eq, beq_iff_eq] at ht
      rcases DataW.trod_slice hu h with ⟨rfl, _⟩ | ⟨a, len, cap, elems, rest, m, _, rfl, _, hb, hl, hm, hlen, hel, _, _⟩
      · exact ⟨by simpa using ht.1.1.symm, _, ⟨[], rfl, by simp, by simp⟩, rfl, fun j hj => by match j, hj with | 0, _ => exact ⟨.slE none 0 (by simp), rfl⟩⟩
      · refine ⟨by simpa using ht.1.1.symm, ?_⟩
        have each : ∀ i, i < len → ∃ asz : List AV × List Value, Shape P n e asz.1 ∧ asz.1.length = P.cellsOf e ∧ (∀ j, j < P.cellsOf e → w.cell? ((a.add (i * P.cellsOf e)).add j) = some (cv asz.2 j)) ∧ CellsOk w asz.1 asz.2 0 := by
          intro i hi
          have h4 := hel i hi
          obtain ⟨y, hy⟩ : ∃ y, elems[i]? = some y := ⟨_, List.getElem?_eq_getElem (by omega)⟩
          rw [hy, Option.bind_eq_some_iff] at h4
          obtain ⟨cs', hc, ht'⟩ := h4
          obtain ⟨k1, asz, k2, k3, k4⟩ := read_ty n e ht.2 ht'
          obtain ⟨_, hcl, hca⟩ := World.cells?_some hc
          refine ⟨(asz, cs'), k2, by simp; omega, fun j hj => ?_, k4⟩
          rw [hca j hj]
          have : j < cs'.length := by omega
          simp [cv, List.getD_eq_getElem?_getD, this]
        obtain ⟨l, hll, hlq⟩ := lists len each
        by_cases h0 : len = 0
        · subst h0
          exact ⟨_, ⟨[], rfl, by simp, by simp⟩, rfl, fun j hj => by match j, hj with | 0, _ => exact ⟨.slE (some a) cap hm, rfl⟩⟩
        · have hg0 := (hlq 0 _ (List.getElem?_eq_getElem (by omega))).2.2.1 0 ht.1.2
          obtain ⟨g, off, q⟩ := a
          have hq : q = none ∧ g < w.heap.size := by
            have e0 : ((Addr.mk g off q).add (0 * P.cellsOf e)).add 0 = ⟨g, off, q⟩ := by simp [Addr.add]
            rw [e0] at hg0
            unfold World.cell? at hg0
            cases hg : w.heap[g]? with
            | none => simp [hg] at hg0
            | some o =>
              refine ⟨?_, (Array.getElem?_eq_some_iff.1 hg).1⟩
              cases q with
              | none => rfl
              | some v => cases o <;> simp [hg] at hg0
          obtain ⟨rfl, hlt⟩ := hq
          have hes : (l.map (·.1)).length = len := by simp [hll]
          have at_ : ∀ i (hi : i < len), ∃ asz, l[i]? = some asz ∧ (l.map (·.1)).getD i [] = asz.1 ∧ (fun i j => cv ((l.map (·.2)).getD i []) j) i = cv asz.2 := by
            intro i hi
            refine ⟨l[i]'(by omega), List.getElem?_eq_getElem (by omega), ?_, ?_⟩
            · simp [List.getD_eq_getElem?_getD, List.getElem?_eq_getElem (show i < l.length by omega)]
            · funext j
              simp [List.getD_eq_getElem?_getD, List.getElem?_eq_getElem (show i < l.length by omega)]
          have hp := PureV.slC (st := fun g => g < w.heap.size) (w := w) (l.map (·.1)) g off cap (P.cellsOf e) (fun i j => cv ((l.map (·.2)).getD i []) j) (by omega) hm ht.1.2 (fun e' => by rw [e'] at hes; simp at hes; omega)
            (fun r hr => by
              obtain ⟨asz, has, rfl⟩ := List.mem_map.1 hr
              obtain ⟨i, hi⟩ := List.getElem?_of_mem has
              exact (hlq i asz hi).2.1)
            hlt
            (fun i j hi hj => by
              obtain ⟨asz, ha, e1, e2⟩ := at_ i (by omega)
              have h5 := (hlq i asz ha).2.2.1 j hj
              have h6 := ((hlq i asz ha).2.2.2 j (by rw [(hlq i asz ha).2.1]; exact hj)).2
              rw [Nat.zero_add] at h6
              have e3 : cv ((l.map (·.2)).getD i []) j = cv asz.2 j := congrFun e2 j
              show w.cell? _ = some (cv ((l.map (·.2)).getD i []) j) ∧ (cv ((l.map (·.2)).getD i []) j).oneCell' = true
              rw [e3]
              refine ⟨?_, h6⟩
              rw [← h5]
              congr 1
              simp only [Addr.add]
              split <;> split <;> simp_all <;> omega)
            (fun i j hi hj => by
              obtain ⟨asz, ha, e1, e2⟩ := at_ i (by omega)
              have h6 := ((hlq i asz ha).2.2.2 j (by rw [(hlq i asz ha).2.1]; exact hj)).1
              rw [Nat.zero_add] at h6
              have e3 : cv ((l.map (·.2)).getD i []) j = cv asz.2 j := congrFun e2 j
              show PureV _ w (av ((l.map (·.1)).getD i []) j) (cv ((l.map (·.2)).getD i []) j)
              rw [e1, e3]
              exact h6)
          rw [hes] at hp
          refine ⟨[.sl (l.map (·.1))], ⟨_, rfl, by omega, fun r hr => ?_⟩, rfl, fun j hj => by match j, hj with | 0, _ => exact ⟨hp, rfl⟩⟩
          obtain ⟨asz, has, rfl⟩ := List.mem_map.1 hr
          obtain ⟨i, hi⟩ := List.getElem?_of_mem has
          exact (hlq i asz hi).1
    · rename_i k e hu
      simp only [Bool.and_eq_true, beq_iff_eq] at ht
      obtain ⟨xs, m, _, _, hl, hlen, hf⟩ := DataW.trod_array hu h
      refine ⟨hl, ?_⟩
      obtain ⟨rs, h1, h2, h3, h4⟩ := read_rows (S := Shape P n e) (w := w) (cs := cs) (sz := P.cellsOf e) k 0 fun i hi => by
        have h4 := hf i hi
        obtain ⟨y, hy⟩ : ∃ y, xs[i]? = some y := ⟨_, List.getElem?_eq_getElem (by omega)⟩
        rw [hy] at h4
        obtain ⟨k1, asz, k2, k3, k4⟩ := read_ty n e ht.2 h4
        refine ⟨asz, k2, by omega, fun j hj => ?_⟩
        have := k4 j hj
        rw [Nat.zero_add, cv_piece (by omega)] at this
        rwa [Nat.zero_add]
      exact ⟨rs.flatten, ⟨rs, rfl, h1, h2⟩, by omega, h4⟩
    · simp at ht

/-- A struct among the arguments. -/
theorem arg_struct {t : TypeId} {fs : Array Field} {r : Reach} {b0 : Nat} {v : Value} {d : DataW H} {p : List MemPlace} (n : Nat) (hu : P.underlying t = some (.struct fs)) (ht : readsTy P n t = true)
    (hval : Value.okWide P w r b0 t v) (hd : DataW.Trod enc P w 0 spare held t v d p) : ∃ asz, Shape P n t asz ∧ PureV (fun g => g < w.heap.size ∧ True) w (.agg asz) v := by
  obtain ⟨fuel, h⟩ := hd
  unfold Value.okWide at hval
  rw [hu] at hval
  obtain ⟨cs, rfl, _, _⟩ := hval
  obtain ⟨_, asz, h1, h2, h3⟩ := read_ty n t ht h
  refine ⟨asz, h1, ?_⟩
  have e : cs = cs.toList.toArray := by simp
  have h2 : asz.length = cs.toList.length := h2
  rw [e]
  refine .agg _ cs.toList h2 (fun u hu => ?_) (fun j hj => ?_)
  · obtain ⟨j, hj, rfl⟩ := List.getElem_of_mem hu
    have := (h3 j (by omega)).2
    rw [Nat.zero_add] at this
    have e2 : cv (Value.agg cs).cells.toList j = cs.toList[j] := by show cv cs.toList j = _; unfold cv; rw [List.getD_eq_getElem?_getD, List.getElem?_eq_getElem hj]; rfl
    rw [e2] at this
    exact this
  · have := (h3 j hj).1
    rw [Nat.zero_add] at this
    exact this.mono fun g hg => ⟨⟨hg, trivial⟩, rfl⟩

theorem arg_int {t : TypeId} {k : IntKind} {r : Reach} {b0 : Nat} {v : Value} {d : DataW H} {p : List MemPlace} (hu : P.underlying t = some (.int k))
    (hval : Value.okWide P w r b0 t v) (hd : DataW.Trod enc P w 0 spare held t v d p) : ∃ i, (Lit.int k i).wf = true ∧ PureV (fun g => g < w.heap.size ∧ True) w (.v (.int k i)) v := by
  obtain ⟨i, rfl, _, _, hw⟩ := open_int hu hval hd
  exact ⟨i, hw, .v _⟩
end

/-- The cells that a datum lays. -/
def laidVals : Nat → DataW Unit → List Value
  | 0, _ => []
  | _ + 1, .lit (.int k n) => [.int k n]
  | _ + 1, .lit (.bool b) => [.bool b]
  | _ + 1, .lit (.string s) => [.string ⟨s.toArray⟩]
  | n + 1, .agg xs => xs.flatMap (laidVals n)
  | _ + 1, _ => []

theorem map_shape {α : Type} {f : α → List AV} : ∀ {es : List (List AV)}, (∀ r ∈ es, ∃ x : α, r = f x) → ∃ l : List α, es = l.map f
  | [], _ => ⟨[], rfl⟩
  | r :: es, h => by
    obtain ⟨x, rfl⟩ := h r (List.mem_cons.2 (.inl rfl))
    obtain ⟨l, rfl⟩ := map_shape (es := es) fun q hq => h q (List.mem_cons.2 (.inr hq))
    exact ⟨x :: l, rfl⟩
end Go.Ab
end
section
set_option linter.unusedVariables false
set_option linter.unusedSimpArgs false
namespace Go.Ab
open Go.Shelf Go.RowKit Go.Lib Go.Proofs Go.Sort
set_option linter.unusedSimpArgs false
set_option linter.unusedVariables false
def prs (l : List (Int × Int)) : List (List AV) := l.map fun x => [.v (.int .i64 x.1), .v (.int .i64 x.2)]
theorem prs_len (l : List (Int × Int)) : (prs l).length = l.length := by simp [prs]
theorem prs_append (l t : List (Int × Int)) : prs (l ++ t) = prs l ++ prs t := by simp [prs]
def encP (x : Int × Int) : List Value := [.int .i64 x.1, .int .i64 x.2]
def pc (l : List (Int × Int)) (j : Nat) : Int := if j % 2 = 0 then (l.getD (j / 2) (0, 0)).1 else (l.getD (j / 2) (0, 0)).2
def flatP (l : List (Int × Int)) : List Value := (List.range (l.length * 2)).map fun j => Value.int .i64 (pc l j)
theorem flatP_len (l : List (Int × Int)) : (flatP l).length = l.length * 2 := by simp [flatP]
theorem flatP_get (l : List (Int × Int)) (j : Nat) (h : j < l.length * 2) : cv (flatP l) j = .int .i64 (pc l j) := by
  simp [cv, flatP, List.getD_eq_getElem?_getD, h]
theorem prs_cell (l : List (Int × Int)) (i j : Nat) (hi : i < l.length) (hj : j < 2) : av ((prs l).getD i []) j = .v (.int .i64 (pc l (i * 2 + j))) := by
  have e1 : (i * 2 + j) / 2 = i := by omega
  have e2 : (i * 2 + j) % 2 = j := by omega
  unfold pc
  rw [e1, e2]
  have e3 : (prs l).getD i [] = [.v (.int .i64 (l.getD i (0, 0)).1), .v (.int .i64 (l.getD i (0, 0)).2)] := by
    simp [prs, List.getD_eq_getElem?_getD, hi]
  rw [e3]
  match j, hj with
  | 0, _ => rfl
  | 1, _ => rfl
theorem fits_prs {st : Nat → Prop} {w : World} {l : List (Int × Int)} {e : TypeId} {c : Value} {xs : List Value} (h : RowFits st w (prs l) 2 e c xs) : xs = flatP l := by
  have hlen : xs.length = l.length * 2 := by rw [h.row.len, prs_len]
  apply List.ext_getElem (by rw [flatP_len]; exact hlen)
  intro j h1 h2
  have h3 := h.cell (j / 2) (j % 2) (by rw [prs_len]; omega) (by omega)
  rw [prs_cell l (j / 2) (j % 2) (by omega) (by omega), show j / 2 * 2 + j % 2 = j by omega] at h3
  have e1 : cv xs j = xs[j] := by simp [cv, List.getD_eq_getElem?_getD, List.getElem?_eq_getElem h1]
  have e2 : (flatP l)[j] = .int .i64 (pc l j) := by simp [flatP]
  rw [e2, ← e1]
  generalize cv xs j = q at h3 ⊢
  cases h3
  rfl
theorem prs_fits {st : Nat → Prop} {w : World} {l : List (Int × Int)} {e : TypeId} {c : Value} (h : RowRep w e 2 c l.length (flatP l)) : RowFits st w (prs l) 2 e c (flatP l) := by
  refine ⟨by intro y hy; obtain ⟨x, _, rfl⟩ := List.mem_map.1 hy; rfl, by omega, by rw [prs_len]; exact h, by simp [flatP, Value.oneCell'], fun i j hi hj => ?_⟩
  rw [prs_len] at hi
  rw [prs_cell l i j hi hj, flatP_get l (i * 2 + j) (by omega)]
  exact .v _
def sortP (cf : Int × Int → Int × Int → Int) (l : List (Int × Int)) : List (Int × Int) := (pdq (ltOf cf) l.toArray 0 l.toArray.size (Lib.bitLen l.toArray.size) true true).toList
theorem sortP_spec (cf : Int × Int → Int × Int → Int) (hO : SWO (ltOf cf)) (l : List (Int × Int)) : (sortP cf l).Perm l ∧ (sortP cf l).Pairwise fun x y => ltOf cf y x = false := by
  have h := pdq_sorts (ltOf cf) hO l.toArray 0 l.toArray.size (Lib.bitLen l.toArray.size) true true (Nat.zero_le _) (Nat.le_refl _) (Or.inl rfl)
  obtain ⟨⟨h1, _, h2⟩, h3⟩ := h
  unfold sortP
  generalize pdq (ltOf cf) l.toArray 0 l.toArray.size (Lib.bitLen l.toArray.size) true true = d at *
  have e1 : (d.extract 0 l.toArray.size).toList = d.toList := by rw [← h1]; simp
  have e2 : (l.toArray.extract 0 l.toArray.size).toList = l := by simp
  rw [e1, e2] at h2
  refine ⟨h2, List.pairwise_iff_getElem.2 fun i j hi hj hij => ?_⟩
  have := h3 i j (Nat.zero_le _) hij (by rw [← h1]; simpa using hj)
  rw [getElem!_pos d j (by simpa using hj), getElem!_pos d i (by simpa using hi)] at this
  simpa using this
theorem sortP_len (cf : Int × Int → Int × Int → Int) (hO : SWO (ltOf cf)) (l : List (Int × Int)) : (sortP cf l).length = l.length := (sortP_spec cf hO l).1.length_eq
theorem flatK_get (l : List (Int × Int)) (j : Nat) (h : j < l.length * 2) : (flatK encP 2 l.toArray)[j]! = .int .i64 (pc l j) := by
  rw [get_flatK encP 2 l.toArray j (by simpa using h)]
  have hi : j / 2 < l.length := by omega
  have e1 : l.toArray[j / 2]! = l.getD (j / 2) (0, 0) := by
    rw [getElem!_pos l.toArray _ (by simpa using hi)]
    simp [List.getD_eq_getElem?_getD, hi]
  rw [e1]
  unfold pc encP
  rcases Nat.mod_two_eq_zero_or_one j with h2 | h2 <;> rw [h2] <;> rfl
theorem heap_sortP {w : World} {g n : Nat} {os : Array Obj} {cur : Array Value} {e : TypeId} {fr : Nat × Nat} (F : Array Value) (hb : w.heap[g]? = some (.cells cur e fr)) :
    (grow (putRow id (Sort.ahead w n) g 0 F) os).heap[g]? = some (.cells (putCells id 0 F cur) e fr) := by
  have hg : g < w.heap.size := (Array.getElem?_eq_some_iff.1 hb).1
  rw [heap_grow_old _ _ (by simpa using hg)]
  simp [putRow, mapBlock, Sort.ahead, Array.getElem?_modify, hb, onCells]
theorem grownBy_sortP {w : World} {g n : Nat} {os : Array Obj} (F : Array Value) : w.grownBy (grow (putRow id (Sort.ahead w n) g 0 F) os) (some g) := by
  refine ⟨rfl, rfl, rfl, by simp, fun k hk hne => ?_⟩
  rw [heap_grow_old _ _ (by simpa using hk)]
  have : g ≠ k := fun e => hne (by rw [e])
  simp [putRow, mapBlock, Sort.ahead, Array.getElem?_modify, this]
theorem sortF_cc {P : Program} {ρ : Ren} (L : SlLaysF0.n6 P ρ) (aE : ∀ w, (isAgg (ρ.t 24)).run P w = .ok true w) (zE : ∀ w, (Go.sizeOf (ρ.t 24)).run P w = .ok 2 w) (hcall : Callable P (ρ.f 6)) (cf : Int × Int → Int × Int → Int) (hO : SWO (ltOf cf)) (g : Nat)
    (eg : ∀ args w, (callFunc g args).run P w = .ok (.enter g args) w)
    (hcmp : ∀ (x y : Int × Int) (W : World), Calls P g #[.agg #[.int .i64 x.1, .int .i64 x.2], .agg #[.int .i64 y.1, .int .i64 y.2]] W fun e w' => e = .returned (.int .i64 (cf x y)) ∧ ∃ q os', w' = grow (W.drewN q) os')
    (l t : List (Int × Int)) (b nm : Nat) (e : TypeId) (hl : l.length < 1000000) : CallC P (ρ.f 6) [.pre b l.length, .fn g []] [(b, .row (prs (l ++ t)) 2 e)] nm (.tup []) [(b, some (.row (prs (sortP cf l ++ t)) 2 e))] := by
  refine ⟨hcall, fun prov β w cs hn hb hi hv => ?_⟩
  have hlk : ∀ n, updL (listH [(b, Blk.row (prs (l ++ t)) 2 e)]) [(b, some (Blk.row (prs (sortP cf l ++ t)) 2 e))] n = if n = b then some (.row (prs (sortP cf l ++ t)) 2 e) else none := by
    intro n; simp only [updL, upd, listH]; split <;> simp
  have hB := hb b (.row (prs (l ++ t)) 2 e) (by simp [listH])
  obtain ⟨xs, hf⟩ := hB
  obtain rfl := fits_prs hf
  obtain ⟨hlen, hv⟩ := hv
  match cs, hlen with
  | [c, c2], _ =>
  have h1 := hv 0 (by simp)
  have h2 := hv 1 (by simp)
  simp only [av_zero, cv, List.getD_cons_zero] at h1
  obtain ⟨ad, n, cap, cap', hβ, rfl, hk, hm⟩ := h1.pre_inv
  obtain ⟨ys, hc2, hy, _⟩ := SimV.fn_inv (f := g) (cs := []) h2
  have hys : ys = [] := List.eq_nil_of_length_eq_zero (by simpa using hy.symm)
  subst hys
  have hc2 : c2 = .func (.func g) #[] #[] := hc2
  subst hc2
  have hsl := sortP_len cf hO l
  have tail : ∀ w', w.grownBy w' (blkOf (β b)) → RowRep w' e 2 (β b) (sortP cf l ++ t).length (flatP (sortP cf l ++ t)) →
      ∃ c β', Ending.returned (Value.tuple #[]) = .returned c ∧ w'.os = w.os ∧ w'.tape = w.tape ∧ w'.output = w.output ∧ w.heap.size ≤ w'.heap.size ∧ Grows β β' ∧ (∀ n, n ≠ nm → β' n = β n) ∧
      (∀ g, g < w.heap.size → (∀ n b', listH [(b, Blk.row (prs (l ++ t)) 2 e)] n = some b' → n ∈ [(b, some (Blk.row (prs (sortP cf l ++ t)) 2 e))].map (·.1) → blkOf (β n) ≠ some g) → w'.heap[g]? = w.heap[g]?) ∧
      SimV (stb (fun g => prov g ∨ w.heap.size ≤ g) w' β' (updL (listH [(b, Blk.row (prs (l ++ t)) 2 e)]) [(b, some (Blk.row (prs (sortP cf l ++ t)) 2 e))])) β' w' (.tup []) c ∧
      (∀ n b', updL (listH [(b, Blk.row (prs (l ++ t)) 2 e)]) [(b, some (Blk.row (prs (sortP cf l ++ t)) 2 e))] n = some b' → n ∈ [(b, some (Blk.row (prs (sortP cf l ++ t)) 2 e))].map (·.1) → BlkRep (stb (fun g => prov g ∨ w.heap.size ≤ g) w' β' (updL (listH [(b, Blk.row (prs (l ++ t)) 2 e)]) [(b, some (Blk.row (prs (sortP cf l ++ t)) 2 e))])) β' w' b' (β' n) ∧
        ∀ g, blkOf (β' n) = some g → w.heap.size ≤ g ∨ ∃ m b', listH [(b, Blk.row (prs (l ++ t)) 2 e)] m = some b' ∧ m ∈ [(b, some (Blk.row (prs (sortP cf l ++ t)) 2 e))].map (·.1) ∧ blkOf (β m) = some g) ∧
      Inj β' (updL (listH [(b, Blk.row (prs (l ++ t)) 2 e)]) [(b, some (Blk.row (prs (sortP cf l ++ t)) 2 e))]) := by
    intro w' hg hr
    refine ⟨_, β, rfl, hg.os, hg.tape, hg.output, hg.size, Grows.refl _, fun _ _ => rfl, fun g hgl hno => ?_, .pure (.tup [] [] rfl (fun j hj => by simp at hj)), fun n b' hb' _ => ?_, ?_⟩
    · exact hg.block g hgl (fun e' => hno b (.row (prs (l ++ t)) 2 e) (by simp [listH]) (by simp) e'.symm)
    · rw [hlk] at hb'
      split at hb'
      · rename_i hnb; subst hnb
        simp at hb'; subst hb'
        exact ⟨⟨_, prs_fits hr⟩, fun g hgb => .inr ⟨n, .row (prs (l ++ t)) 2 e, by simp [listH], by simp, hgb⟩⟩
      · cases hb'
    · intro n m b1 b2 g h1 h2 _ _
      rw [hlk] at h1 h2
      split at h1
      · split at h2
        · simp_all
        · cases h2
      · cases h1
  rw [hβ] at hf
  obtain ⟨hnl, hnc, hcm, hpos⟩ := row_cap hf
  rw [prs_len] at hnl
  by_cases hl0 : l = []
  · subst hl0
    have hs0 : sortP cf [] = [] := List.eq_nil_of_length_eq_zero hsl
    refine (AnyF.slices_SortFunc_none L ad cap' (.func (.func g) #[] #[]) w).mono fun e' w' ⟨he, hw⟩ => ?_
    subst he; subst hw
    refine tail w' ⟨rfl, rfl, rfl, Nat.le_refl _, fun _ _ _ => rfl⟩ ?_
    rw [hs0]
    have := hf.row
    rw [prs_len] at this
    rw [hβ]
    exact this
  · have hlp : 0 < l.length := List.length_pos_iff.2 hl0
    obtain ⟨gb, cur, rfl, hg, hcur, htk⟩ := hpos (by rw [hnl]; simp; omega)
    have hlt : gb < w.heap.size := (Array.getElem?_eq_some_iff.1 hg).1
    rw [prs_len] at htk
    have hla : (l ++ t).length = l.length + t.length := by simp
    have hcs : (l ++ t).length * 2 ≤ cur.size := by rw [hcur]; exact Nat.mul_le_mul_right _ (by omega)
    have hcell : ∀ j, j < (l ++ t).length * 2 → cur[j]? = some (.int .i64 (pc (l ++ t) j)) := by
      intro j hj
      have h3 : (cur.toList.take ((l ++ t).length * 2))[j]? = (flatP (l ++ t))[j]? := by rw [htk]
      rw [List.getElem?_take_of_lt hj] at h3
      rw [← Array.getElem?_toList, h3]
      unfold flatP
      rw [List.getElem?_map, List.getElem?_range hj]
      rfl
    have pl : ∀ j, j < l.length * 2 → pc (l ++ t) j = pc l j := by
      intro j hj
      unfold pc
      have : (l ++ t).getD (j / 2) (0, 0) = l.getD (j / 2) (0, 0) := by
        simp only [List.getD_eq_getElem?_getD]
        rw [List.getElem?_append_left (by omega)]
      rw [this]
    have pr : ∀ j, l.length * 2 ≤ j → pc (sortP cf l ++ t) j = pc (l ++ t) j := by
      intro j hj
      unfold pc
      have : (sortP cf l ++ t).getD (j / 2) (0, 0) = (l ++ t).getD (j / 2) (0, 0) := by
        simp only [List.getD_eq_getElem?_getD]
        rw [List.getElem?_append_right (by omega), List.getElem?_append_right (by omega), hsl]
      rw [this]
    have pl2 : ∀ j, j < l.length * 2 → pc (sortP cf l ++ t) j = pc (sortP cf l) j := by
      intro j hj
      unfold pc
      have : (sortP cf l ++ t).getD (j / 2) (0, 0) = (sortP cf l).getD (j / 2) (0, 0) := by
        simp only [List.getD_eq_getElem?_getD]
        rw [List.getElem?_append_left (by omega)]
      rw [this]
    have hH : HoldsK encP 2 w gb 0 l.toArray := by
      intro j hj
      rw [size_flatK] at hj
      have hj : j < l.length * 2 := by simpa using hj
      refine ⟨?_, by simp [World.frozen?, hg]⟩
      rw [flatK_get l j hj]
      simp only [World.cell?, hg, Nat.zero_add, Option.isSome_none, Bool.false_eq_true, if_false, id]
      rw [hcell j (by omega), pl j hj]
    have key := AnyQ.slices_SortFunc_eq L 2 aE zE encP (fun _ => rfl) (fun x v hv => by simp [encP] at hv; rcases hv with rfl | rfl <;> rfl) cf hO g #[] gb 0 cap' l.toArray w eg (fun m os dk _ x y => hcmp x y _) hH hlt (by simp; omega)
    have es : l.toArray.size = l.length := by simp
    rw [es] at key
    refine key.mono fun e' w' ⟨he, q, os, hw⟩ => ?_
    subst he
    have hsp : (pdq (ltOf cf) l.toArray 0 l.length (Lib.bitLen l.length) true true) = (sortP cf l).toArray := by unfold sortP; simp
    rw [hsp] at hw
    subst hw
    have hbk : blkOf (β b) = some gb := by rw [hβ]; simp [blkOf]; omega
    refine tail _ ?_ ?_
    · rw [hbk]; exact grownBy_sortP _
    · have hla2 : (sortP cf l ++ t).length = n := by simp [hsl]; omega
      rw [hβ, hla2]
      refine .inr ⟨gb, cap, rfl, by omega, by rw [flatP_len, hla2], .inr ⟨gb, cap, _, rfl, Nat.zero_le _, heap_sortP _ hg, hnc, hcm, by simp [putCells, hcur], ?_⟩⟩
      apply List.ext_getElem?
      intro j
      by_cases hj : j < n * 2
      · rw [List.getElem?_take_of_lt hj, Array.getElem?_toList]
        have e1 : (flatP (sortP cf l ++ t))[j]? = some (.int .i64 (pc (sortP cf l ++ t) j)) := by
          unfold flatP
          rw [List.getElem?_map, List.getElem?_range (by rw [hla2]; exact hj)]
          rfl
        rw [e1]
        simp only [putCells, Array.getElem?_mapIdx, size_flatK, List.size_toArray, hsl, Nat.zero_le, Nat.zero_add, true_and, Nat.sub_zero, id]
        rw [hcell j (by rw [← hnl]; exact hj)]
        simp only [Option.map_some]
        by_cases h3 : j < l.length * 2
        · rw [if_pos h3, flatK_get _ j (by rw [hsl]; exact h3), pl2 j h3]
        · rw [if_neg h3, pr j (by omega)]
      · rw [List.getElem?_take_eq_none (by omega), List.getElem?_eq_none (by rw [flatP_len, hla2]; omega)]
end Go.Ab
end
section
set_option linter.unusedVariables false
set_option linter.unusedSimpArgs false
namespace Go.Ab
open Go.Shelf Go.RowKit Go.Lib Go.Proofs
set_option linter.unusedSimpArgs false
set_option maxRecDepth 10000
set_option linter.unusedVariables false
theorem grow_cc {P : Program} {ρ : Ren} (L : Lays8.n4 P ρ) (hcall : Callable P (ρ.f 4)) (i0 : TypeInfo) (z : Value) (hi0 : P.info? (ρ.t 25) = some i0) (hz0 : i0.zero = some z) (hs0 : 0 < i0.size) (hzs : z.cells.size = i0.size) (hb1 : i0.bytes ≤ 1000)
    (n : Nat) (hn : n < 1000000) (nm : Nat) : CallC P (ρ.f 4) [.nils, .v (.int .i64 n)] [] nm (.own nm) [(nm, some (.row [] i0.size (ρ.t 25)))] := by
  refine ⟨hcall, fun prov β w cs hnm hb hi hv => ?_⟩
  obtain ⟨hlen, hv⟩ := hv
  match cs, hlen with
  | [c, c2], _ =>
  have h1 := hv 0 (by simp)
  have h2 := hv 1 (by simp)
  simp only [av_zero, cv, List.getD_cons_zero] at h1
  obtain ⟨a, rfl⟩ := SimV.nils_inv h1
  have hc2 : c2 = .int .i64 n := SimV.v_inv (x := .int .i64 n) h2
  subst hc2
  have hlk : ∀ k, updL (listH []) [(nm, some (Blk.row [] i0.size (ρ.t 25)))] k = if k = nm then some (.row [] i0.size (ρ.t 25)) else none := by
    intro k; simp only [updL, upd, listH]
  have hgr : ∀ c', Grows β (upd β nm c') := fun c' k hk => by
    unfold upd; split
    · rename_i h; subst h; exact absurd hnm hk
    · rfl
  have tail : ∀ w' ad cap, w.grownBy w' none → RowRep w' (ρ.t 25) i0.size (.slice ad 0 cap) 0 [] → (∀ g, blkOf (.slice ad 0 cap) = some g → w.heap.size ≤ g) →
      ∃ c β', Ending.returned (Value.slice ad 0 cap) = .returned c ∧ w'.os = w.os ∧ w'.tape = w.tape ∧ w'.output = w.output ∧ w.heap.size ≤ w'.heap.size ∧ Grows β β' ∧ (∀ n, n ≠ nm → β' n = β n) ∧
      (∀ g, g < w.heap.size → (∀ n b', listH [] n = some b' → n ∈ [(nm, some (Blk.row [] i0.size (ρ.t 25)))].map (·.1) → blkOf (β n) ≠ some g) → w'.heap[g]? = w.heap[g]?) ∧
      SimV (stb (fun g => prov g ∨ w.heap.size ≤ g) w' β' (updL (listH []) [(nm, some (Blk.row [] i0.size (ρ.t 25)))])) β' w' (.own nm) c ∧
      (∀ n b', updL (listH []) [(nm, some (Blk.row [] i0.size (ρ.t 25)))] n = some b' → n ∈ [(nm, some (Blk.row [] i0.size (ρ.t 25)))].map (·.1) → BlkRep (stb (fun g => prov g ∨ w.heap.size ≤ g) w' β' (updL (listH []) [(nm, some (Blk.row [] i0.size (ρ.t 25)))])) β' w' b' (β' n) ∧
        ∀ g, blkOf (β' n) = some g → w.heap.size ≤ g ∨ ∃ m b', listH [] m = some b' ∧ m ∈ [(nm, some (Blk.row [] i0.size (ρ.t 25)))].map (·.1) ∧ blkOf (β m) = some g) ∧
      Inj β' (updL (listH []) [(nm, some (Blk.row [] i0.size (ρ.t 25)))]) := by
    intro w' ad cap hg hr hnew
    refine ⟨_, upd β nm (.slice ad 0 cap), rfl, hg.os, hg.tape, hg.output, hg.size, hgr _, fun k hne => by simp [upd, hne], fun g hgl _ => hg.block g hgl (by simp), .own nm (by simp [upd]), fun k b' hb' _ => ?_, ?_⟩
    · rw [hlk] at hb'
      split at hb'
      · rename_i hk; subst hk
        simp only [Option.some.injEq] at hb'; subst hb'
        have hu : upd β k (Value.slice ad 0 cap) k = .slice ad 0 cap := by simp [upd]
        rw [hu]
        exact ⟨⟨[], by simp, hs0, hr, by simp, fun i j hi => by simp at hi⟩, fun g hgb => .inl (hnew g hgb)⟩
      · cases hb'
    · intro k m b1 b2 g h1 h2 _ _
      rw [hlk] at h1 h2
      split at h1
      · split at h2
        · simp_all
        · cases h2
      · cases h1
  by_cases h0 : n = 0
  · subst h0
    refine (Any8.slices_Grow_room L a 0 0 0 w (by omega) (by omega) (by omega) (by omega)).mono fun e w' ⟨he, hw⟩ => ?_
    subst he; subst hw
    exact tail w' a 0 ⟨rfl, rfl, rfl, Nat.le_refl _, fun _ _ _ => rfl⟩ (.inl ⟨a, rfl, rfl, rfl⟩) (fun g hg => by cases a <;> simp [blkOf] at hg)
  · have hbig : (0 + n) * i0.bytes ≤ 140737488355328 := by
      rw [Nat.zero_add]
      exact Nat.le_trans (Nat.mul_le_mul (Nat.le_of_lt hn) hb1) (by omega)
    refine (Any8.slices_Grow_grow L i0 z hi0 hz0 hs0 a 0 0 n [] w (by omega) (by omega) hbig (by omega) (by rw [Nat.zero_mul]; rfl) (fun _ => rfl) (fun b _ j v hj => by rw [List.getElem?_nil] at hj; cases hj)).mono fun e w' ⟨he, hw⟩ => ?_
    subst he; subst hw
    have hcap := grownCap_ge w (0 + n) 0 (ρ.t 25)
    have hcm := grownCap_le_maxLen w (0 + n) 0 (ρ.t 25) (by unfold maxLen; omega)
    refine tail _ _ _ ?_ ?_ ?_
    · refine ⟨rfl, rfl, rfl, ?_, fun k hk _ => ?_⟩
      · show w.heap.size ≤ (w.heap.push _).size
        rw [Array.size_push]; omega
      · show (w.heap.push _)[k]? = w.heap[k]?
        rw [Array.getElem?_push, if_neg (by omega)]
    · refine RowRep.of_owns (base := 0) (And.intro (by simp) (Or.inr ⟨w.heap.size, grownCap w (0 + n) 0 (ρ.t 25), #[] ++ Builtin.zeroCells z.cells (0 + n - 0) ++ Builtin.zeroCells z.cells (grownCap w (0 + n) 0 (ρ.t 25) - (0 + n)), rfl, Nat.zero_le _, ?_, Nat.zero_le _, hcm, ?_, by simp⟩))
      · show (w.heap.push _)[w.heap.size]? = _
        rw [Array.getElem?_push, if_pos rfl]
      · have h1 := zero_len z.cells (0 + n - 0)
        have h2 := zero_len z.cells (grownCap w (0 + n) 0 (ρ.t 25) - (0 + n))
        simp only [Array.length_toList] at h1 h2
        simp only [Array.size_append, List.size_toArray, List.length_nil, h1, h2, hzs]
        rw [Nat.zero_add, ← Nat.add_mul]
        congr 1
        omega
    · intro g hg
      simp only [blkOf] at hg
      split at hg
      · cases hg
      · simp at hg; omega
end Go.Ab
end
section
set_option linter.unusedVariables false
set_option linter.unusedSimpArgs false
namespace Go.Ab
open Go.Shelf Go.RowKit Go.Lib Go.Proofs
variable {P : Program} {ρ : Ren}

set_option maxHeartbeats 2000000 in
set_option maxRecDepth 100000 in
theorem clone_zero (L : SlLaysE0.n41 P ρ) (i0 : TypeInfo) (z : Value) (size bytes : Nat) (hi : P.info? (ρ.t 23) = some i0) (hz0 : i0.zero = some z) (hz1 : i0.size = size) (hz2 : i0.bytes = bytes) (hzs : z.cells.size = size) (hsz : 0 < size)
    (z23 : ∀ w, (Go.sizeOf (ρ.t 23)).run P w = .ok size w) (a : Addr) (c : Nat) (w : World) :
    Calls P (ρ.f 41) #[.slice (some a) 0 c] w fun e w' => ∃ v', e = .returned v' ∧ w'.ownsRow w.heap.size (ρ.t 23) size v' 0 [] ∧ Below w.heap.size w w' := by
  have mixed := L.mixed; have t4 := L.t4; have a4 := L.a4; have z4 := L.z4; have v4 := L.v4; have t22 := L.t22; have a22 := L.a22; have z22 := L.z22; have v22 := L.v22
  have q22 : ∀ (w : World) (a : Option Addr) (n c n' c' : Nat), (binOp .eql (ρ.t 22) (.slice a n c) (.slice none n' c')).run P w = .ok (.bool a.isNone) w := fun w a n c n' c' => Lib.run_eql_slice_nil w _ _ a n c n' c' L.t22
  have u22 : ∀ w, Sem.run P (underlying (ρ.t 22)) w = .ok (TypeDesc.slice (ρ.t 23)) w := run_underlying t22
  obtain ⟨_, _, FG⟩ := L.f41
  go_enter FG, SlBodyN.n41_ntmps ρ
  go_wp2_with (at_builtin; refine wpList_append_own _ rfl _ _ (ρ.t 22) rfl w.heap.size (ρ.t 23) i0 z size bytes t22 hi hz0 hz1 hz2 hzs hsz _ _ _ rfl (World.ownsRow_made w #[] 0 (Nat.le_refl _) (Nat.zero_le _) (by simp)) a 0 c [] rfl ?qc1 ?qc2 ?qc3 ?qc4 ?qc5 ?qc6 ?_)
  case qc1 => simp
  case qc2 => intro j u hj; simp at hj
  case qc3 => intro u hu; cases hu
  case qc4 => unfold maxLen; omega
  case qc5 => omega
  case qc6 => simp
  intro v' w1 hown hgrow hnil
  go_wp2
  go_ret
  refine ⟨v', rfl, by simpa using hown, ?_⟩
  exact ((Below.refl _ w).alloc (Nat.le_refl _) _).grown hgrow (by simp) (by intro k hk; simp [Value.ownBlock] at hk; omega)

theorem getD_flat (es : List (List AV)) (f : Nat → Nat → Value) (sz n : Nat) (hn : n = es.length) (i j : Nat) (hi : i < n) (hj : j < sz) :
    cv ((List.range (n * sz)).map fun k => f (k / sz) (k % sz)) (i * sz + j) = f i j := by
  have h1 : i * sz + j < n * sz := by
    calc i * sz + j < i * sz + sz := by omega
      _ = (i + 1) * sz := by rw [Nat.add_mul]; omega
      _ ≤ n * sz := Nat.mul_le_mul_right _ (by omega)
  have h2 : (i * sz + j) / sz = i := by rw [Nat.add_comm, Nat.add_mul_div_right _ _ (by omega), Nat.div_eq_of_lt hj, Nat.zero_add]
  have h3 : (i * sz + j) % sz = j := by rw [Nat.add_comm, Nat.add_mul_mod_self_right, Nat.mod_eq_of_lt hj]
  simp [cv, List.getD_eq_getElem?_getD, h1, h2, h3]

theorem clone_of (L : SlLaysE0.n41 P ρ) (hcall : Callable P (ρ.f 41)) (i0 : TypeInfo) (z : Value) (size bytes : Nat) (hi : P.info? (ρ.t 23) = some i0) (hz0 : i0.zero = some z) (hz1 : i0.size = size) (hz2 : i0.bytes = bytes) (hzs : z.cells.size = size) (hsz : 0 < size)
    (z23 : ∀ w, (Go.sizeOf (ρ.t 23)).run P w = .ok size w) (es : List (List AV)) (hes : ∀ x ∈ es, x.length = size) (hbig : es.length * bytes ≤ 140737488355328) : PureOwn P (ρ.f 41) [.sl es] es size (ρ.t 23) := by
  refine ⟨hcall, fun ok w cs ⟨hlen, hv⟩ => ?_⟩
  match cs, hlen with
  | [c], _ =>
  have h1 := hv 0 (by simp)
  simp only [av_zero, cv, List.getD_cons_zero] at h1
  have tail : ∀ w' v' news, w'.ownsRow w.heap.size (ρ.t 23) size v' es.length news → Below w.heap.size w w' → (∀ u ∈ news, u.oneCell' = true) → (∀ i j, i < es.length → j < size → PureV (fun g => g < w.heap.size ∧ ok g) w (av (es.getD i []) j) (cv news (i * size + j))) →
      ∃ c, Ending.returned v' = .returned c ∧ Keeps w w' ∧ (∃ a n cap, c = .slice a n cap) ∧ (∃ xs, RowFits (fun g => g < w'.heap.size ∧ (ok g ∨ w.heap.size ≤ g) ∧ blkOf c ≠ some g) w' es size (ρ.t 23) c xs) ∧ ∀ g, blkOf c = some g → w.heap.size ≤ g := by
    intro w' v' news ho hb hone hp
    have hblk : ∀ g, blkOf v' = some g → w.heap.size ≤ g := by
      intro g hg
      rcases ho.2 with ⟨h, _⟩ | ⟨g', cap, cur, h, hge, _⟩
      · rw [h] at hg; simp [blkOf] at hg
      · rw [h] at hg
        simp only [blkOf] at hg
        split at hg
        · cases hg
        · simp only [Option.some.injEq] at hg; omega
    refine ⟨v', rfl, ⟨hb.os, hb.tape, hb.output, hb.size, hb.block⟩, ?_, ⟨news, hes, hsz, RowRep.of_owns ho, hone, fun i j hi hj => (hp i j hi hj).mono fun g hg => ⟨⟨Nat.lt_of_lt_of_le hg.1 hb.size, .inl hg.2, fun e => ?_⟩, hb.block g hg.1⟩⟩, hblk⟩
    · rcases ho.2 with ⟨h, _⟩ | ⟨g, cap, cur, h, _⟩
      · exact ⟨_, _, _, h⟩
      · exact ⟨_, _, _, h⟩
    · have := hblk g e; omega
  cases h1 with
  | slE a cap hc =>
    cases a with
    | none =>
      refine (AnyE.slices_Clone_nil L 0 cap w).mono fun e w' ⟨he, hw⟩ => ?_
      subst he; subst hw
      exact tail w' _ [] ⟨by simp, .inl ⟨rfl, rfl⟩⟩ (Below.refl _ _) (by simp) (fun i j hi => by simp at hi)
    | some a =>
      refine (clone_zero L i0 z size bytes hi hz0 hz1 hz2 hzs hsz z23 a cap w).mono fun e w' ⟨v', he, ho, hb⟩ => ?_
      subst he
      exact tail w' v' [] ho hb (by simp) (fun i j hi => by simp at hi)
  | slC _ g off cap sz f hc hm h0 hne hz hst hcell hr =>
    have hsz' : sz = size := by
      obtain ⟨x, hx⟩ := List.exists_mem_of_ne_nil _ hne
      exact (hz x hx).symm.trans (hes x hx)
    subst hsz'
    have hat := getD_flat es f sz es.length rfl
    have dm : ∀ k, k < es.length * sz → k / sz < es.length ∧ k % sz < sz := fun k hk => ⟨(Nat.div_lt_iff_lt_mul hsz).2 hk, Nat.mod_lt _ hsz⟩
    refine (AnyE.slices_Clone L i0 z sz bytes hi hz0 hz1 hz2 hzs hsz z23 g off es.length cap ((List.range (es.length * sz)).map fun k => f (k / sz) (k % sz)) w (by simp) (by omega) hbig (fun j u hj => ?_) (fun u hu => ?_)).mono fun e w' ⟨v', he, ho, _, hb⟩ => ?_
    · rw [List.getElem?_map] at hj
      by_cases hjl : j < es.length * sz
      · rw [List.getElem?_range hjl] at hj
        simp only [Option.map_some, Option.some.injEq] at hj
        subst hj
        obtain ⟨d1, d2⟩ := dm j hjl
        have := (hcell (j / sz) (j % sz) d1 d2).1
        rwa [show j / sz * sz + j % sz = j by rw [Nat.mul_comm]; exact Nat.div_add_mod j sz] at this
      · rw [List.getElem?_eq_none (by simpa using hjl)] at hj
        simp at hj
    · simp only [List.mem_map, List.mem_range] at hu
      obtain ⟨k, hk, rfl⟩ := hu
      obtain ⟨d1, d2⟩ := dm k hk
      exact (hcell _ _ d1 d2).2
    · subst he
      refine tail w' v' _ ho hb (fun u hu => ?_) (fun i j hi hj => ?_)
      · simp only [List.mem_map, List.mem_range] at hu
        obtain ⟨k, hk, rfl⟩ := hu
        obtain ⟨d1, d2⟩ := dm k hk
        exact (hcell _ _ d1 d2).2
      · rw [hat i j hi hj]
        exact hr i j hi hj
end Go.Ab
end
section
set_option linter.unusedVariables false
set_option linter.unusedSimpArgs false
namespace Go.Ab
open Go

/-- Two strictly ascending lists with the same members are one. -/
theorem asc_ext : ∀ {l m : List Int}, l.Pairwise (· < ·) → m.Pairwise (· < ·) → (∀ x, x ∈ l ↔ x ∈ m) → l = m
  | [], [], _, _, _ => rfl
  | [], b :: m, _, _, h => by have := (h b).2 (List.mem_cons.2 (.inl rfl)); simp at this
  | a :: l, [], _, _, h => by have := (h a).1 (List.mem_cons.2 (.inl rfl)); simp at this
  | a :: l, b :: m, hl, hm, h => by
    rw [List.pairwise_cons] at hl hm
    have hab : a = b := by
      rcases List.mem_cons.1 ((h a).1 (List.mem_cons.2 (.inl rfl))) with e | e
      · exact e
      · rcases List.mem_cons.1 ((h b).2 (List.mem_cons.2 (.inl rfl))) with e' | e'
        · exact e'.symm
        · have := hl.1 b e'; have := hm.1 a e; omega
    subst hab
    congr 1
    refine asc_ext hl.2 hm.2 fun x => ⟨fun hx => ?_, fun hx => ?_⟩
    · rcases List.mem_cons.1 ((h x).1 (List.mem_cons.2 (.inr hx))) with e | e
      · have := hl.1 x hx; omega
      · exact e
    · rcases List.mem_cons.1 ((h x).2 (List.mem_cons.2 (.inr hx))) with e | e
      · have := hm.1 x hx; omega
      · exact e

theorem compact_asc (l : List Int) (hs : l.Pairwise (· ≤ ·)) : ∀ m, m ≤ l.length →
    (Lib.compactUpTo l.toArray m).Pairwise (· < ·) ∧ ∀ x, x ∈ Lib.compactUpTo l.toArray m ↔ ∃ j, j < m ∧ l.toArray[j]! = x := by
  have le : ∀ i j, i ≤ j → j < l.length → l.toArray[i]! ≤ l.toArray[j]! := by
    intro i j hij hj
    have hi : i < l.length := by omega
    have e1 : l.toArray[i]! = l[i] := by simp [getElem!_pos, hi]
    have e2 : l.toArray[j]! = l[j] := by simp [getElem!_pos, hj]
    rw [e1, e2]
    rcases Nat.lt_or_ge i j with h | h
    · exact List.pairwise_iff_getElem.1 hs i j hi hj h
    · obtain rfl : i = j := by omega
      exact Int.le_refl _
  intro m
  induction m with
  | zero => intro _; simp [Lib.compactUpTo]
  | succ m ih =>
    intro hm
    obtain ⟨h1, h2⟩ := ih (by omega)
    rw [Lib.compactUpTo_succ]
    by_cases hk : Lib.keeps l.toArray m = true
    · rw [if_pos hk]
      refine ⟨?_, fun x => ?_⟩
      · rw [List.pairwise_append]
        refine ⟨h1, by simp, fun x hx y hy => ?_⟩
        obtain rfl : y = l.toArray[m]! := by simpa using hy
        obtain ⟨j, hj, rfl⟩ := (h2 x).1 hx
        simp only [Lib.keeps, decide_eq_true_eq] at hk
        rcases hk with hk | hk
        · omega
        · have a1 := le j (m - 1) (by omega) (by omega)
          have a2 := le (m - 1) m (by omega) (by omega)
          omega
      · rw [List.mem_append, h2]
        constructor
        · rintro (⟨j, hj, e⟩ | h)
          · exact ⟨j, by omega, e⟩
          · exact ⟨m, by omega, by simpa using (List.mem_singleton.1 h).symm⟩
        · rintro ⟨j, hj, e⟩
          rcases Nat.lt_or_ge j m with h | h
          · exact .inl ⟨j, h, e⟩
          · obtain rfl : j = m := by omega
            exact .inr (by simp [← e])
    · rw [if_neg hk, List.append_nil]
      refine ⟨h1, fun x => ?_⟩
      rw [h2]
      constructor
      · rintro ⟨j, hj, e⟩; exact ⟨j, by omega, e⟩
      · rintro ⟨j, hj, e⟩
        rcases Nat.lt_or_ge j m with h | h
        · exact ⟨j, h, e⟩
        · obtain rfl : j = m := by omega
          simp only [Lib.keeps, decide_eq_true_eq, not_or, Decidable.not_not] at hk
          exact ⟨j - 1, by omega, by rw [← hk.2, e]⟩

theorem compact_sorted (l : List Int) (hs : l.Pairwise (· ≤ ·)) : (Lib.compact l).Pairwise (· < ·) ∧ ∀ x, x ∈ Lib.compact l ↔ x ∈ l := by
  obtain ⟨h1, h2⟩ := compact_asc l hs l.length (Nat.le_refl _)
  refine ⟨h1, fun x => ?_⟩
  unfold Lib.compact
  rw [h2]
  constructor
  · rintro ⟨j, hj, rfl⟩
    simp [getElem!_pos, hj]
  · intro hx
    obtain ⟨j, hj, e⟩ := List.getElem_of_mem hx
    exact ⟨j, hj, by simp [getElem!_pos, hj, e]⟩

def sortZ (l : List Int) : List Int := l.mergeSort fun x y => decide (x ≤ y)
theorem sortZ_asc (l : List Int) : (sortZ l).Pairwise (· ≤ ·) := by
  have := List.pairwise_mergeSort (le := fun x y : Int => decide (x ≤ y)) (by intro a b c; simp; omega) (by intro a b; simp; omega) l
  simpa [sortZ] using this
theorem mem_sortZ (l : List Int) (x : Int) : x ∈ sortZ l ↔ x ∈ l := (List.mergeSort_perm l _).mem_iff

/-- The least number of a list, from a first one on. -/
def leastZ (a : Int) (l : List Int) : Int := l.foldl min a
/-- What is taken out, least first. -/
def takeZ : Nat → List Int → List Int
  | 0, _ => []
  | _ + 1, [] => []
  | k + 1, a :: l => leastZ a (a :: l) :: takeZ k ((a :: l).filter fun x => x != leastZ a (a :: l))

end Go.Ab
end
section
set_option linter.unusedVariables false
set_option linter.unusedSimpArgs false
namespace Go.Ab
open Go

theorem find_first {P : Int → Bool} {c : List Int} {k : Nat} (hk : k < c.length) (hp : P (c.getD k 0) = true) (hj : ∀ j, j < k → P (c.getD j 0) = false) : c.find? P = some (c.getD k 0) := by
  rw [List.find?_eq_some_iff_getElem]
  refine ⟨hp, k, hk, by simp [List.getD_eq_getElem?_getD, hk], fun j hjk => ?_⟩
  have hjl : j < c.length := by omega
  have := hj j hjk
  rw [List.getD_eq_getElem?_getD, List.getElem?_eq_getElem hjl, Option.getD_some] at this
  simp [this]

theorem find_no {P : Int → Bool} {c : List Int} (hj : ∀ j, j < c.length → P (c.getD j 0) = false) : c.find? P = none := by
  rw [List.find?_eq_none]
  intro x hx
  obtain ⟨j, hjl, rfl⟩ := List.getElem_of_mem hx
  have := hj j hjl
  rw [List.getD_eq_getElem?_getD, List.getElem?_eq_getElem hjl, Option.getD_some] at this
  simp [this]

def scanE (P : Int → Int → Bool) (lw c : List Int) : Option (Int × Int) := lw.findSome? fun y => (c.find? fun x => P x y).map fun x => (x, y)
theorem scan_hit {P : Int → Int → Bool} {lw c : List Int} {i : Nat} {o : Int} (hi : i < lw.length) (hj : ∀ j, j < i → (c.find? fun x => P x (lw.getD j 0)) = none) (h : (c.find? fun x => P x (lw.getD i 0)) = some o) : scanE P lw c = some (o, lw.getD i 0) := by
  have e : lw = lw.take i ++ lw.getD i 0 :: lw.drop (i + 1) := by
    have h1 : lw.getD i 0 = lw[i] := by simp [List.getD_eq_getElem?_getD, hi]
    rw [h1, List.getElem_cons_drop, List.take_append_drop]
  have hn : (lw.take i).findSome? (fun y => (c.find? fun x => P x y).map fun x => (x, y)) = none := by
    rw [List.findSome?_eq_none_iff]
    intro y hy
    obtain ⟨j, hjl, rfl⟩ := List.getElem_of_mem hy
    have hji : j < i := by simp at hjl; omega
    have := hj j hji
    have h2 : lw.getD j 0 = (lw.take i)[j] := by
      have : j < lw.length := by omega
      simp [List.getD_eq_getElem?_getD, this]
    rw [h2] at this
    rw [this]; rfl
  unfold scanE
  rw [e, List.findSome?_append, hn, Option.none_or, List.findSome?_cons]
  rw [← e, h]
  rfl
theorem scan_no {P : Int → Int → Bool} {lw c : List Int} {i : Nat} (hi : lw.length ≤ i) (hj : ∀ j, j < i → (c.find? fun x => P x (lw.getD j 0)) = none) : scanE P lw c = none := by
  unfold scanE
  rw [List.findSome?_eq_none_iff]
  intro y hy
  obtain ⟨j, hjl, rfl⟩ := List.getElem_of_mem hy
  have := hj j (by omega)
  rw [List.getD_eq_getElem?_getD, List.getElem?_eq_getElem hjl, Option.getD_some] at this
  rw [this]; rfl
end Go.Ab
end
section
set_option linter.unusedVariables false
set_option linter.unusedSimpArgs false
namespace Go.Ab
def putS (n : Int) (r : List Int × Bool) (v : Int) : List Int × Bool :=
  let r1 := if !r.2 && decide (n ≤ v) then (r.1 ++ [n], true) else r
  if v != n then (r1.1 ++ [v], r1.2) else r1
def putZ (l : List Int) (n : Int) : List Int := if (l.foldl (putS n) ([], false)).2 then (l.foldl (putS n) ([], false)).1 else (l.foldl (putS n) ([], false)).1 ++ [n]
end Go.Ab
end
section
set_option linter.unusedVariables false
set_option linter.unusedSimpArgs false
namespace Go.Proofs
open Go Go.Ab
set_option linter.unusedSimpArgs false
set_option linter.unusedVariables false
structure Sp where
  a : Int
  b : Int
def zeroSp : Sp := ⟨0, 0⟩
def hasS (l : List Sp) (n : Int) : Prop := ∃ s ∈ l, s.a ≤ n ∧ n < s.b
def hasB (l : List Sp) (n : Int) : Bool := l.any fun s => decide (s.a ≤ n) && decide (n < s.b)
theorem hasB_iff (l : List Sp) (n : Int) : hasB l n = true ↔ hasS l n := by
  unfold hasB hasS
  simp only [List.any_eq_true, Bool.and_eq_true, decide_eq_true_eq]
theorem hasS_nil (n : Int) : ¬ hasS [] n := by unfold hasS; simp
theorem hasS_cons (s : Sp) (l : List Sp) (n : Int) : hasS (s :: l) n ↔ (s.a ≤ n ∧ n < s.b) ∨ hasS l n := by
  unfold hasS; simp
theorem hasS_append (l m : List Sp) (n : Int) : hasS (l ++ m) n ↔ hasS l n ∨ hasS m n := by
  unfold hasS
  constructor
  · rintro ⟨s, hs, h⟩
    rcases List.mem_append.1 hs with hs | hs
    · exact .inl ⟨s, hs, h⟩
    · exact .inr ⟨s, hs, h⟩
  · rintro (⟨s, hs, h⟩ | ⟨s, hs, h⟩)
    · exact ⟨s, List.mem_append.2 (.inl hs), h⟩
    · exact ⟨s, List.mem_append.2 (.inr hs), h⟩
theorem hasS_single (s : Sp) (n : Int) : hasS [s] n ↔ s.a ≤ n ∧ n < s.b := by
  rw [hasS_cons]
  exact ⟨fun h => h.resolve_right (hasS_nil n), .inl⟩
theorem hasS_congr {l m : List Sp} (h : ∀ s, s ∈ l ↔ s ∈ m) (n : Int) : hasS l n ↔ hasS m n :=
  ⟨fun ⟨s, hs, k⟩ => ⟨s, (h s).1 hs, k⟩, fun ⟨s, hs, k⟩ => ⟨s, (h s).2 hs, k⟩⟩
def Canon (l : List Sp) : Prop := l.Pairwise (fun s t => s.b < t.a) ∧ ∀ s ∈ l, s.a < s.b
theorem canon_nil : Canon [] := ⟨List.Pairwise.nil, by simp⟩
theorem Canon.tail {s : Sp} {l : List Sp} (h : Canon (s :: l)) : Canon l := ⟨(List.pairwise_cons.1 h.1).2, fun t ht => h.2 t (by simp [ht])⟩
theorem canon_ext : ∀ {l m : List Sp}, Canon l → Canon m → (∀ n, hasS l n ↔ hasS m n) → l = m
  | [], [], _, _, _ => rfl
  | [], t :: m, _, hm, h => absurd ((h t.a).2 ⟨t, by simp, Int.le_refl _, hm.2 t (by simp)⟩) (hasS_nil _)
  | s :: l, [], hl, _, h => absurd ((h s.a).1 ⟨s, by simp, Int.le_refl _, hl.2 s (by simp)⟩) (hasS_nil _)
  | s :: l, t :: m, hl, hm, h => by
    have low : ∀ {s : Sp} {l : List Sp} {n : Int}, Canon (s :: l) → hasS (s :: l) n → s.a ≤ n := by
      intro s l n hc hn
      obtain ⟨u, hu, h1, h2⟩ := hn
      rcases List.mem_cons.1 hu with rfl | hu
      · exact h1
      · have := (List.pairwise_cons.1 hc.1).1 u hu
        have := hc.2 s (by simp)
        omega
    have up : ∀ {s : Sp} {l : List Sp}, Canon (s :: l) → ¬ hasS (s :: l) s.b := by
      intro s l hc hn
      obtain ⟨u, hu, h1, h2⟩ := hn
      rcases List.mem_cons.1 hu with rfl | hu
      · omega
      · have := (List.pairwise_cons.1 hc.1).1 u hu
        omega
    have hs := hl.2 s (by simp)
    have ht := hm.2 t (by simp)
    have e1 : s.a = t.a := by
      have h1 := low hl ((h t.a).2 ⟨t, by simp, Int.le_refl _, ht⟩)
      have h2 := low hm ((h s.a).1 ⟨s, by simp, Int.le_refl _, hs⟩)
      omega
    have e2 : s.b = t.b := by
      rcases Int.lt_trichotomy s.b t.b with hlt | he | hlt
      · exact absurd ((h s.b).2 ⟨t, by simp, by omega, hlt⟩) (up hl)
      · exact he
      · exact absurd ((h t.b).1 ⟨s, by simp, by omega, hlt⟩) (up hm)
    have e : s = t := by cases s; cases t; simp only at e1 e2; rw [e1, e2]
    subst e
    congr 1
    refine canon_ext hl.tail hm.tail fun n => ?_
    have out : ∀ {l : List Sp}, Canon (s :: l) → hasS l n → ¬ (s.a ≤ n ∧ n < s.b) := by
      intro l hc ⟨u, hu, h1, h2⟩ hh
      have := (List.pairwise_cons.1 hc.1).1 u hu
      omega
    have := h n
    rw [hasS_cons, hasS_cons] at this
    exact ⟨fun hh => (this.1 (.inr hh)).resolve_left (out hl hh), fun hh => (this.2 (.inr hh)).resolve_left (out hm hh)⟩
/-- Joining: one more span behind those before. -/
def stepM (out : List Sp) (s : Sp) : List Sp :=
  if 0 < out.length ∧ s.a ≤ (out.getD (out.length - 1) zeroSp).b then out.set (out.length - 1) ⟨(out.getD (out.length - 1) zeroSp).a, max (out.getD (out.length - 1) zeroSp).b s.b⟩ else out ++ [s]
def mergeS (l : List Sp) : List Sp := l.foldl stepM []
theorem stepM_snoc (o : List Sp) (t s : Sp) : stepM (o ++ [t]) s = if s.a ≤ t.b then o ++ [⟨t.a, max t.b s.b⟩] else o ++ [t] ++ [s] := by
  have e : (o ++ [t]).getD ((o ++ [t]).length - 1) zeroSp = t := by
    simp [List.getD_eq_getElem?_getD]
  unfold stepM
  rw [e]
  by_cases h : s.a ≤ t.b
  · rw [if_pos ⟨by simp, h⟩, if_pos h]
    simp [List.set_append]
  · rw [if_neg (fun hh => h hh.2), if_neg h]
theorem stepM_nil (s : Sp) : stepM [] s = [s] := rfl
theorem stepM_len (o : List Sp) (s : Sp) : (stepM o s).length ≤ o.length + 1 := by
  unfold stepM
  split <;> simp
theorem foldM_len : ∀ (l o : List Sp), (l.foldl stepM o).length ≤ o.length + l.length
  | [], o => by simp
  | s :: l, o => by
    have h1 := foldM_len l (stepM o s)
    have h2 := stepM_len o s
    simp only [List.foldl_cons, List.length_cons]
    omega
theorem canon_snoc {o : List Sp} {t : Sp} : Canon (o ++ [t]) ↔ Canon o ∧ (∀ s ∈ o, s.b < t.a) ∧ t.a < t.b := by
  unfold Canon
  rw [List.pairwise_append]
  constructor
  · rintro ⟨⟨h1, _, h3⟩, h4⟩
    exact ⟨⟨h1, fun s hs => h4 s (by simp [hs])⟩, fun s hs => h3 s hs t (by simp), h4 t (by simp)⟩
  · rintro ⟨⟨h1, h2⟩, h3, h4⟩
    refine ⟨⟨h1, by simp, fun s hs u hu => by rw [List.mem_singleton.1 hu]; exact h3 s hs⟩, fun s hs => ?_⟩
    rcases List.mem_append.1 hs with hs | hs
    · exact h2 s hs
    · rw [List.mem_singleton.1 hs]; exact h4
theorem merge_go : ∀ (r o : List Sp) (t : Sp), Canon (o ++ [t]) → r.Pairwise (fun x y => x.a ≤ y.a) → (∀ s ∈ r, t.a ≤ s.a ∧ s.a < s.b) →
    Canon (r.foldl stepM (o ++ [t])) ∧ ∀ n, hasS (r.foldl stepM (o ++ [t])) n ↔ hasS (o ++ [t]) n ∨ hasS r n
  | [], o, t, hc, _, _ => ⟨hc, fun n => by simp [hasS_nil]⟩
  | s :: r, o, t, hc, hp, hr => by
    have h1 := hr s (by simp)
    have h2 := List.pairwise_cons.1 hp
    have hc' := canon_snoc.1 hc
    rw [List.foldl_cons, stepM_snoc]
    by_cases h : s.a ≤ t.b
    · rw [if_pos h]
      have k := merge_go r o ⟨t.a, max t.b s.b⟩ (canon_snoc.2 ⟨hc'.1, hc'.2.1, by show t.a < max t.b s.b; omega⟩) h2.2 (fun u hu => ⟨by have := h2.1 u hu; show t.a ≤ u.a; omega, (hr u (by simp [hu])).2⟩)
      refine ⟨k.1, fun n => ?_⟩
      rw [k.2 n, hasS_append, hasS_append, hasS_single, hasS_single, hasS_cons]
      show ((hasS o n ∨ (t.a ≤ n ∧ n < max t.b s.b)) ∨ hasS r n) ↔ _
      have : (t.a ≤ n ∧ n < max t.b s.b) ↔ (t.a ≤ n ∧ n < t.b) ∨ (s.a ≤ n ∧ n < s.b) := by omega
      rw [this]
      constructor
      · rintro ((h | (h | h)) | h)
        · exact .inl (.inl h)
        · exact .inl (.inr h)
        · exact .inr (.inl h)
        · exact .inr (.inr h)
      · rintro ((h | h) | (h | h))
        · exact .inl (.inl h)
        · exact .inl (.inr (.inl h))
        · exact .inl (.inr (.inr h))
        · exact .inr h
    · rw [if_neg h]
      have k := merge_go r (o ++ [t]) s (canon_snoc.2 ⟨hc, fun u hu => by
        rcases List.mem_append.1 hu with hu | hu
        · have := hc'.2.1 u hu; have := hc'.2.2; omega
        · rw [List.mem_singleton.1 hu]; omega, h1.2⟩) h2.2 (fun u hu => ⟨h2.1 u hu, (hr u (by simp [hu])).2⟩)
      refine ⟨k.1, fun n => ?_⟩
      rw [k.2 n, hasS_append (o ++ [t]) [s], hasS_single, hasS_cons]
      rw [or_assoc]
theorem merge_spec {l : List Sp} (hp : l.Pairwise (fun x y => x.a ≤ y.a)) (hr : ∀ s ∈ l, s.a < s.b) : Canon (mergeS l) ∧ ∀ n, hasS (mergeS l) n ↔ hasS l n := by
  cases l with
  | nil => exact ⟨canon_nil, fun n => Iff.rfl⟩
  | cons s l =>
    have h2 := List.pairwise_cons.1 hp
    have k := merge_go l [] s (canon_snoc.2 ⟨canon_nil, by simp, hr s (by simp)⟩) h2.2 (fun u hu => ⟨h2.1 u hu, hr u (by simp [hu])⟩)
    unfold mergeS
    rw [List.foldl_cons, stepM_nil]
    rw [List.nil_append] at k
    refine ⟨k.1, fun n => ?_⟩
    rw [k.2 n, hasS_single, hasS_cons]
/-- The canonical form: sorted, joined. -/
def fullB (s : Sp) : Bool := decide (s.a < s.b)
def insS (s : Sp) : List Sp → List Sp
  | [] => [s]
  | t :: l => if t.a < s.a then t :: insS s l else s :: t :: l
def sortSp : List Sp → List Sp
  | [] => []
  | s :: l => insS s (sortSp l)
theorem mem_insS (s : Sp) : ∀ (l : List Sp) (x : Sp), x ∈ insS s l ↔ x = s ∨ x ∈ l
  | [], x => by simp [insS]
  | t :: l, x => by
    unfold insS
    split
    · rw [List.mem_cons, mem_insS s l x, List.mem_cons]
      constructor
      · rintro (h | h | h)
        · exact .inr (.inl h)
        · exact .inl h
        · exact .inr (.inr h)
      · rintro (h | h | h)
        · exact .inr (.inl h)
        · exact .inl h
        · exact .inr (.inr h)
    · simp [List.mem_cons]
theorem insS_asc (s : Sp) : ∀ (l : List Sp), l.Pairwise (fun x y => x.a ≤ y.a) → (insS s l).Pairwise (fun x y => x.a ≤ y.a)
  | [], _ => by simp [insS]
  | t :: l, h => by
    have h' := List.pairwise_cons.1 h
    unfold insS
    split
    · rw [List.pairwise_cons]
      refine ⟨fun u hu => ?_, insS_asc s l h'.2⟩
      rcases (mem_insS s l u).1 hu with rfl | hu
      · omega
      · exact h'.1 u hu
    · rw [List.pairwise_cons]
      refine ⟨fun u hu => ?_, h⟩
      rcases List.mem_cons.1 hu with rfl | hu
      · omega
      · have := h'.1 u hu; omega
theorem sortSp_spec : ∀ l : List Sp, (sortSp l).Pairwise (fun x y => x.a ≤ y.a) ∧ ∀ x, x ∈ sortSp l ↔ x ∈ l
  | [] => ⟨List.Pairwise.nil, fun x => Iff.rfl⟩
  | s :: l => by
    have h := sortSp_spec l
    refine ⟨insS_asc s _ h.1, fun x => ?_⟩
    show x ∈ insS s (sortSp l) ↔ _
    rw [mem_insS, h.2 x, List.mem_cons]
def canon (l : List Sp) : List Sp := mergeS (sortSp (l.filter fullB))
theorem filter_has (l : List Sp) (n : Int) : hasS (l.filter fullB) n ↔ hasS l n := by
  unfold hasS fullB
  constructor
  · rintro ⟨s, hs, h⟩
    exact ⟨s, (List.mem_filter.1 hs).1, h⟩
  · rintro ⟨s, hs, h1, h2⟩
    exact ⟨s, List.mem_filter.2 ⟨hs, by simp; omega⟩, h1, h2⟩
theorem canon_is (l : List Sp) : Canon (canon l) ∧ ∀ n, hasS (canon l) n ↔ hasS l n := by
  have h := sortSp_spec (l.filter fullB)
  have k := merge_spec h.1 (fun s hs => by
    have := (List.mem_filter.1 ((h.2 s).1 hs)).2
    simpa [fullB] using this)
  refine ⟨k.1, fun n => ?_⟩
  rw [show canon l = mergeS (sortSp (l.filter fullB)) from rfl, k.2 n, hasS_congr h.2, filter_has]
/-- Whatever sorts and joins gives the canonical form. -/
theorem merge_canon {l m : List Sp} (hp : m.Pairwise (fun x y => x.a ≤ y.a)) (hm : ∀ s, s ∈ m ↔ s ∈ l.filter fullB) : mergeS m = canon l := by
  have k := merge_spec hp (fun s hs => by
    have := (List.mem_filter.1 ((hm s).1 hs)).2
    simpa [fullB] using this)
  refine canon_ext k.1 (canon_is l).1 fun n => ?_
  rw [k.2 n, (canon_is l).2 n, hasS_congr hm, filter_has]
theorem canon_eq {l m : List Sp} (hl : Canon l) (h : ∀ n, hasS l n ↔ hasS m n) : l = canon m :=
  canon_ext hl (canon_is m).1 fun n => (h n).trans ((canon_is m).2 n).symm
theorem canon_same {l m : List Sp} (h : ∀ n, hasS l n ↔ hasS m n) : canon l = canon m :=
  canon_ext (canon_is l).1 (canon_is m).1 fun n => ((canon_is l).2 n).trans ((h n).trans ((canon_is m).2 n).symm)
/-- Taking together, taking what is in both, taking away. -/
def interL (l m : List Sp) : List Sp := l.flatMap fun s => m.map fun t => ⟨max s.a t.a, min s.b t.b⟩
theorem inter_has (l m : List Sp) (n : Int) : hasS (interL l m) n ↔ hasS l n ∧ hasS m n := by
  unfold interL hasS
  constructor
  · rintro ⟨u, hu, h1, h2⟩
    obtain ⟨s, hs, hu⟩ := List.mem_flatMap.1 hu
    obtain ⟨t, ht, rfl⟩ := List.mem_map.1 hu
    simp only at h1 h2
    exact ⟨⟨s, hs, by omega⟩, ⟨t, ht, by omega⟩⟩
  · rintro ⟨⟨s, hs, h⟩, ⟨t, ht, k⟩⟩
    exact ⟨⟨max s.a t.a, min s.b t.b⟩, List.mem_flatMap.2 ⟨s, hs, List.mem_map.2 ⟨t, ht, rfl⟩⟩, by show max s.a t.a ≤ n ∧ n < min s.b t.b; omega⟩
def cutL (l : List Sp) (t : Sp) : List Sp := l.flatMap fun s => [⟨s.a, min s.b t.a⟩, ⟨max s.a t.b, s.b⟩]
theorem cut_has (l : List Sp) (t : Sp) (ht : t.a < t.b) (n : Int) : hasS (cutL l t) n ↔ hasS l n ∧ ¬ (t.a ≤ n ∧ n < t.b) := by
  unfold cutL hasS
  constructor
  · rintro ⟨u, hu, h1, h2⟩
    obtain ⟨s, hs, hu⟩ := List.mem_flatMap.1 hu
    rcases List.mem_cons.1 hu with rfl | hu
    · simp only at h1 h2
      exact ⟨⟨s, hs, by omega⟩, by omega⟩
    · rw [List.mem_singleton.1 hu] at h1 h2
      simp only at h1 h2
      exact ⟨⟨s, hs, by omega⟩, by omega⟩
  · rintro ⟨⟨s, hs, h⟩, k⟩
    by_cases hn : n < t.a
    · exact ⟨⟨s.a, min s.b t.a⟩, List.mem_flatMap.2 ⟨s, hs, by simp⟩, by show s.a ≤ n ∧ n < min s.b t.a; omega⟩
    · exact ⟨⟨max s.a t.b, s.b⟩, List.mem_flatMap.2 ⟨s, hs, by simp⟩, by show max s.a t.b ≤ n ∧ n < s.b; omega⟩
def stepC (l : List Sp) (t : Sp) : List Sp := if t.a < t.b then canon (cutL l t) else l
def minusL (l m : List Sp) : List Sp := m.foldl stepC (canon l)
theorem minus_go : ∀ (m l : List Sp), Canon l → Canon (m.foldl stepC l) ∧ ∀ n, hasS (m.foldl stepC l) n ↔ hasS l n ∧ ¬ hasS m n
  | [], l, h => ⟨h, fun n => by simp [hasS_nil]⟩
  | t :: m, l, h => by
    rw [List.foldl_cons]
    unfold stepC
    by_cases ht : t.a < t.b
    · rw [if_pos ht]
      have k := minus_go m (canon (cutL l t)) (canon_is _).1
      refine ⟨k.1, fun n => ?_⟩
      have := k.2 n
      unfold stepC at this
      rw [this, (canon_is _).2 n, cut_has l t ht, hasS_cons, not_or, and_assoc]
    · rw [if_neg ht]
      have k := minus_go m l h
      refine ⟨k.1, fun n => ?_⟩
      have := k.2 n
      unfold stepC at this
      rw [this, hasS_cons, not_or]
      constructor
      · rintro ⟨h1, h2⟩; exact ⟨h1, by omega, h2⟩
      · rintro ⟨h1, _, h2⟩; exact ⟨h1, h2⟩
theorem minus_is (l m : List Sp) : Canon (minusL l m) ∧ ∀ n, hasS (minusL l m) n ↔ hasS l n ∧ ¬ hasS m n := by
  have k := minus_go m (canon l) (canon_is l).1
  exact ⟨k.1, fun n => by unfold minusL; rw [k.2 n, (canon_is l).2 n]⟩
end Go.Proofs
end
section
set_option linter.unusedVariables false
set_option linter.unusedSimpArgs false
namespace Go.Proofs
set_option linter.unusedSimpArgs false
set_option linter.unusedVariables false
def sumN : Nat → (Nat → Int) → Int
  | 0, _ => 0
  | n + 1, f => sumN n f + f n
end Go.Proofs
end
section
set_option linter.unusedVariables false
set_option linter.unusedSimpArgs false
namespace Go.Proofs
open Go Go.Ab
set_option linter.unusedSimpArgs false
set_option linter.unusedVariables false
def placesS (l : List Sp) : List Int := l.flatMap fun s => [s.a, s.b]
theorem mem_places (l : List Sp) (p : Int) : p ∈ placesS l ↔ ∃ s ∈ l, p = s.a ∨ p = s.b := by
  unfold placesS; simp
def segs (f : Int → Bool) : List Int → List Sp
  | p :: q :: r => (if f p = true then [⟨p, q⟩] else []) ++ segs f (q :: r)
  | _ => []
theorem segs_has (f : Int → Bool) : ∀ (r : List Int) (p : Int), (p :: r).Pairwise (· < ·) → (∀ m n, p ≤ m → m ≤ n → (∀ q ∈ r, m < q → n < q) → f n = f m) →
    ∀ n, hasS (segs f (p :: r)) n ↔ p ≤ n ∧ f n = true ∧ ∃ q ∈ r, n < q
  | [], p, _, _, n => by simp [segs, hasS_nil]
  | q :: r, p, hp, H, n => by
    have hp' := List.pairwise_cons.1 hp
    have hpq := hp'.1 q (by simp)
    have k := segs_has f r q hp'.2 (fun m n hm hmn hq => H m n (by omega) hmn fun x hx hmx => by
      rcases List.mem_cons.1 hx with rfl | hx
      · omega
      · exact hq x hx hmx) n
    have hq' := List.pairwise_cons.1 hp'.2
    unfold segs
    rw [hasS_append, k]
    have e : ∀ n, p ≤ n → n < q → f n = f p := fun n h1 h2 => H p n (Int.le_refl _) h1 fun x hx _ => by
      rcases List.mem_cons.1 hx with rfl | hx
      · exact h2
      · have := hq'.1 x hx; omega
    constructor
    · rintro (h | ⟨h1, h2, x, hx, h3⟩)
      · by_cases hf : f p = true
        · rw [if_pos hf, hasS_single] at h
          simp only at h
          exact ⟨h.1, by rw [e n h.1 h.2, hf], q, by simp, h.2⟩
        · rw [if_neg hf] at h; exact absurd h (hasS_nil n)
      · exact ⟨by omega, h2, x, by simp [hx], h3⟩
    · rintro ⟨h1, h2, x, hx, h3⟩
      by_cases hn : n < q
      · refine .inl ?_
        rw [← e n h1 hn, if_pos h2, hasS_single]
        exact ⟨h1, hn⟩
      · refine .inr ⟨by omega, h2, ?_⟩
        rcases List.mem_cons.1 hx with rfl | hx
        · omega
        · exact ⟨x, hx, h3⟩
theorem has_const {l : List Sp} {P : List Int} (hP : ∀ s ∈ l, s.a ∈ P ∧ s.b ∈ P) {m n : Int} (hmn : m ≤ n) (h : ∀ q ∈ P, m < q → n < q) : hasB l n = hasB l m := by
  rw [Bool.eq_iff_iff, hasB_iff, hasB_iff]
  constructor
  · rintro ⟨s, hs, h1, h2⟩
    refine ⟨s, hs, ?_, by omega⟩
    by_cases hh : s.a ≤ m
    · exact hh
    · have := h s.a (hP s hs).1 (by omega); omega
  · rintro ⟨s, hs, h1, h2⟩
    exact ⟨s, hs, by omega, h s.b (hP s hs).2 h2⟩
def sweepL (g : Bool → Bool → Bool) (a b : List Sp) (P : List Int) : List Sp := segs (fun p => g (hasB a p) (hasB b p)) P
theorem sweep_has {g : Bool → Bool → Bool} (hg : g false false = false) {a b : List Sp} {P : List Int} (hP : P.Pairwise (· < ·)) (hm : ∀ p, p ∈ P ↔ p ∈ placesS (a ++ b)) (n : Int) :
    hasS (sweepL g a b P) n ↔ g (hasB a n) (hasB b n) = true := by
  have ha : ∀ s ∈ a, s.a ∈ P ∧ s.b ∈ P := fun s hs => ⟨(hm _).2 ((mem_places _ _).2 ⟨s, by simp [hs], .inl rfl⟩), (hm _).2 ((mem_places _ _).2 ⟨s, by simp [hs], .inr rfl⟩)⟩
  have hb : ∀ s ∈ b, s.a ∈ P ∧ s.b ∈ P := fun s hs => ⟨(hm _).2 ((mem_places _ _).2 ⟨s, by simp [hs], .inl rfl⟩), (hm _).2 ((mem_places _ _).2 ⟨s, by simp [hs], .inr rfl⟩)⟩
  have hex : g (hasB a n) (hasB b n) = true → ∃ x ∈ P, ∃ y ∈ P, x ≤ n ∧ n < y := by
    intro h
    have : hasB a n = true ∨ hasB b n = true := by
      cases h1 : hasB a n <;> cases h2 : hasB b n <;> simp_all
    rcases this with h1 | h1 <;> rw [hasB_iff] at h1 <;> obtain ⟨s, hs, h2, h3⟩ := h1
    · exact ⟨s.a, (ha s hs).1, s.b, (ha s hs).2, h2, h3⟩
    · exact ⟨s.a, (hb s hs).1, s.b, (hb s hs).2, h2, h3⟩
  unfold sweepL
  cases P with
  | nil =>
    refine ⟨fun h => absurd h (hasS_nil n), fun h => ?_⟩
    obtain ⟨x, hx, _⟩ := hex h
    simp at hx
  | cons p r =>
    have hp := List.pairwise_cons.1 hP
    rw [segs_has _ r p hP (fun m n h1 h2 h3 => by
      have h4 : ∀ q ∈ p :: r, m < q → n < q := fun q hq hmq => by
        rcases List.mem_cons.1 hq with rfl | hq
        · omega
        · exact h3 q hq hmq
      show g (hasB a n) (hasB b n) = g (hasB a m) (hasB b m)
      rw [has_const ha h2 h4, has_const hb h2 h4]) n]
    refine ⟨fun h => h.2.1, fun h => ?_⟩
    obtain ⟨x, hx, y, hy, h1, h2⟩ := hex h
    have hpx : p ≤ x := by
      rcases List.mem_cons.1 hx with rfl | hx
      · omega
      · have := hp.1 x hx; omega
    refine ⟨by omega, h, y, ?_, h2⟩
    rcases List.mem_cons.1 hy with rfl | hy
    · omega
    · exact hy
/-- Totals. -/
def lenS (l : List Sp) : Int := (l.map fun s => s.b - s.a).sum
def ind (l : List Sp) (n : Int) : Int := if hasB l n = true then 1 else 0
/-- The first free start. -/
def fitGo (len : Int) : List Sp → Int → Int
  | [], st => st
  | s :: l, st => if s.b ≤ st then fitGo len l st else if st < s.a ∧ len ≤ s.a - st then st else fitGo len l s.b
def fitStep (len : Int) (st : Int) (s : Sp) : Int := if s.b ≤ st ∨ (st < s.a ∧ len ≤ s.a - st) then st else s.b
end Go.Proofs
end
section
set_option linter.unusedVariables false
set_option linter.unusedSimpArgs false
namespace Go.Ab
def withS (n : Int) (r : List Int × Bool) (v : Int) : List Int × Bool :=
  let r1 := if !r.2 && decide (n ≤ v) then ((if n < v then r.1 ++ [n] else r.1), true) else r
  (r1.1 ++ [v], r1.2)
def withZ (l : List Int) (n : Int) : List Int := if (l.foldl (withS n) ([], false)).2 then (l.foldl (withS n) ([], false)).1 else (l.foldl (withS n) ([], false)).1 ++ [n]
theorem with_done (n : Int) : ∀ (l out : List Int), l.foldl (withS n) (out, true) = (out ++ l, true)
  | [], out => by simp
  | v :: l, out => by
    rw [List.foldl_cons]
    have e : withS n (out, true) v = (out ++ [v], true) := by simp [withS]
    rw [e, with_done n l _]; simp
theorem with_open (n : Int) : ∀ (l out : List Int), l.Pairwise (· < ·) → ∃ t, (if (l.foldl (withS n) (out, false)).2 then (l.foldl (withS n) (out, false)).1 else (l.foldl (withS n) (out, false)).1 ++ [n]) = out ++ t ∧ t.Pairwise (· < ·) ∧ ∀ x, x ∈ t ↔ x ∈ l ∨ x = n
  | [], out, _ => ⟨[n], by simp, by simp, by simp⟩
  | v :: l, out, h => by
    rw [List.foldl_cons]
    by_cases hv : n ≤ v
    · by_cases hvn : n < v
      · have e : withS n (out, false) v = (out ++ [n] ++ [v], true) := by simp [withS, hv, hvn]
        rw [e, with_done]
        refine ⟨n :: v :: l, by simp, List.pairwise_cons.2 ⟨fun x hx => ?_, h⟩, fun x => ?_⟩
        · rw [List.pairwise_cons] at h
          rcases List.mem_cons.1 hx with rfl | hx
          · exact hvn
          · have := h.1 x hx; omega
        · simp only [List.mem_cons]
          constructor
          · rintro (h1 | h1 | h1)
            · exact .inr h1
            · exact .inl (.inl h1)
            · exact .inl (.inr h1)
          · rintro ((h1 | h1) | h1)
            · exact .inr (.inl h1)
            · exact .inr (.inr h1)
            · exact .inl h1
      · have e0 : v = n := by omega
        subst e0
        have e : withS v (out, false) v = (out ++ [v], true) := by simp [withS]
        rw [e, with_done]
        refine ⟨v :: l, by simp, h, fun x => ?_⟩
        simp only [List.mem_cons]
        constructor
        · exact fun h1 => .inl h1
        · rintro (h1 | h1)
          · exact h1
          · exact .inl h1
    · have e : withS n (out, false) v = (out ++ [v], false) := by simp [withS, hv]
      rw [e]
      rw [List.pairwise_cons] at h
      obtain ⟨t, h1, h2, h3⟩ := with_open n l (out ++ [v]) h.2
      refine ⟨v :: t, by rw [h1]; simp, List.pairwise_cons.2 ⟨fun x hx => ?_, h2⟩, fun x => ?_⟩
      · rcases (h3 x).1 hx with h4 | h4
        · exact h.1 x h4
        · omega
      · rw [List.mem_cons, h3, List.mem_cons]
        constructor
        · rintro (h4 | h4 | h4)
          · exact .inl (.inl h4)
          · exact .inl (.inr h4)
          · exact .inr h4
        · rintro ((h4 | h4) | h4)
          · exact .inl h4
          · exact .inr (.inl h4)
          · exact .inr (.inr h4)
theorem with_step (A : List Int) (n : Int) : withZ (Lib.compact (sortZ A)) n = Lib.compact (sortZ (A ++ [n])) := by
  obtain ⟨a1, a2⟩ := compact_sorted (sortZ A) (sortZ_asc A)
  obtain ⟨b1, b2⟩ := compact_sorted (sortZ (A ++ [n])) (sortZ_asc _)
  obtain ⟨t, h1, p1, p2⟩ := with_open n _ [] a1
  have e : withZ (Lib.compact (sortZ A)) n = t := by unfold withZ; rw [h1]; simp
  rw [e]
  refine asc_ext p1 b1 fun x => ?_
  rw [p2, a2, b2, mem_sortZ, mem_sortZ]
  simp
theorem withS_len (n : Int) : ∀ (l : List Int) (r : List Int × Bool), (l.foldl (withS n) r).1.length ≤ r.1.length + 2 * l.length
  | [], r => by simp
  | v :: l, r => by
    rw [List.foldl_cons]
    refine Nat.le_trans (withS_len n l _) ?_
    have : (withS n r v).1.length ≤ r.1.length + 2 := by
      unfold withS
      dsimp only
      split <;> (try split) <;> simp <;> omega
    simp only [List.length_cons]
    omega
end Go.Ab
end
section
set_option linter.unusedVariables false
set_option linter.unusedSimpArgs false
namespace Go.Ab
def insI (x : Int) : List Int → List Int
  | [] => [x]
  | y :: l => if x ≤ y then x :: y :: l else y :: insI x l
def isortI : List Int → List Int
  | [] => []
  | x :: l => insI x (isortI l)
theorem insI_perm (x : Int) : ∀ l, (insI x l).Perm (x :: l)
  | [] => .refl _
  | y :: l => by
    unfold insI
    split
    · exact .refl _
    · exact ((insI_perm x l).cons y).trans (.swap x y l)
theorem isortI_perm : ∀ l, (isortI l).Perm l
  | [] => .refl _
  | x :: l => (insI_perm x _).trans ((isortI_perm l).cons x)
theorem insI_asc (x : Int) : ∀ l : List Int, l.Pairwise (· ≤ ·) → (insI x l).Pairwise (· ≤ ·)
  | [], _ => by simp [insI]
  | y :: l, h => by
    rw [List.pairwise_cons] at h
    unfold insI
    split
    · rename_i hxy
      refine List.pairwise_cons.2 ⟨fun z hz => ?_, List.pairwise_cons.2 h⟩
      rcases List.mem_cons.1 hz with rfl | hz
      · exact hxy
      · exact Int.le_trans hxy (h.1 z hz)
    · rename_i hxy
      refine List.pairwise_cons.2 ⟨fun z hz => ?_, insI_asc x l h.2⟩
      rcases List.mem_cons.1 ((insI_perm x l).mem_iff.1 hz) with rfl | hz
      · omega
      · exact h.1 z hz
theorem isortI_asc : ∀ l, (isortI l).Pairwise (· ≤ ·)
  | [] => .nil
  | x :: l => insI_asc x _ (isortI_asc l)
theorem asc_perm_eq : ∀ {l m : List Int}, l.Perm m → l.Pairwise (· ≤ ·) → m.Pairwise (· ≤ ·) → l = m
  | [], m, h, _, _ => by rw [List.nil_perm.1 h]
  | a :: l, [], h, _, _ => by simp at h
  | a :: l, b :: m, h, hl, hm => by
    have hl' := List.pairwise_cons.1 hl
    have hm' := List.pairwise_cons.1 hm
    have hab : a = b := by
      rcases List.mem_cons.1 (h.mem_iff.1 (List.mem_cons.2 (.inl rfl))) with e | e
      · exact e
      · rcases List.mem_cons.1 (h.mem_iff.2 (List.mem_cons.2 (.inl rfl))) with e' | e'
        · exact e'.symm
        · have := hl'.1 b e'; have := hm'.1 a e; omega
    subst hab
    rw [asc_perm_eq ((List.perm_cons a).1 h) hl'.2 hm'.2]
theorem sortZ_ins : sortZ = isortI := funext fun l => asc_perm_eq ((List.mergeSort_perm l _).trans (isortI_perm l).symm) (sortZ_asc l) (isortI_asc l)
end Go.Ab
end
