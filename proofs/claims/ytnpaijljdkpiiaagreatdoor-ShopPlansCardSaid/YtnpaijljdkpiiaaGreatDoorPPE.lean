import Derived.Test.YtnpaijljdkpiiaaGreatDoorPPD
import Derived.Shelf.SlSortCmp.NoneTotal
import Derived.Ground.SlsfProg
import Derived.Test.YtnpaijljdkpiiaaGreatDoorProg
import Derived.Lib.SlicesCompact
set_option linter.unusedVariables false
set_option linter.unusedSimpArgs false
namespace Go.Ab
open Go.Shelf Go.RowKit Go.Lib Go.Proofs Go.Sort
section
variable {α : Type} [Inhabited α] (enc : α → List Value) (sz : Nat)
def rowsE (l : List α) : List (List AV) := l.map fun x => (enc x).map AV.v
omit [Inhabited α] in
theorem rowsE_len (l : List α) : (rowsE enc l).length = l.length := by simp [rowsE]
omit [Inhabited α] in
def pcE (l : List α) (j : Nat) : Value := cv (enc (l.getD (j / sz) default)) (j % sz)
def flatE (l : List α) : List Value := (List.range (l.length * sz)).map (pcE enc sz l)
theorem flatE_len (l : List α) : (flatE enc sz l).length = l.length * sz := by simp [flatE]
theorem flatE_get (l : List α) (j : Nat) (h : j < l.length * sz) : cv (flatE enc sz l) j = pcE enc sz l j := by
  simp [cv, flatE, List.getD_eq_getElem?_getD, h]
theorem divs {sz i j : Nat} (hj : j < sz) : (i * sz + j) / sz = i ∧ (i * sz + j) % sz = j := by
  have h0 : 0 < sz := by omega
  constructor
  · rw [Nat.add_comm, Nat.add_mul_div_right _ _ h0, Nat.div_eq_of_lt hj, Nat.zero_add]
  · rw [Nat.add_comm, Nat.add_mul_mod_self_right, Nat.mod_eq_of_lt hj]
theorem div_in {sz n j : Nat} (h0 : 0 < sz) (h : j < n * sz) : j / sz < n := (Nat.div_lt_iff_lt_mul h0).2 h
variable (hk : ∀ x, (enc x).length = sz) (h1 : ∀ x, ∀ v ∈ enc x, v.oneCell' = true) (h0 : 0 < sz)
include hk in
theorem rowsE_cell (l : List α) (i j : Nat) (hi : i < l.length) (hj : j < sz) : av ((rowsE enc l).getD i []) j = .v (pcE enc sz l (i * sz + j)) := by
  unfold pcE
  rw [(divs hj).1, (divs hj).2]
  have e3 : (rowsE enc l).getD i [] = (enc (l.getD i default)).map AV.v := by
    simp [rowsE, List.getD_eq_getElem?_getD, hi]
  have hl : j < (enc (l.getD i default)).length := by rw [hk]; exact hj
  rw [e3]
  generalize enc (l.getD i default) = E at *
  simp [av, cv, List.getD_eq_getElem?_getD, List.getElem?_eq_getElem hl]
include hk h0 in
theorem fits_rowsE {st : Nat → Prop} {w : World} {l : List α} {e : TypeId} {c : Value} {xs : List Value} (h : RowFits st w (rowsE enc l) sz e c xs) : xs = flatE enc sz l := by
  have hlen : xs.length = l.length * sz := by rw [h.row.len, rowsE_len]
  apply List.ext_getElem (by rw [flatE_len]; exact hlen)
  intro j h1 h2
  have hjm : j % sz < sz := Nat.mod_lt _ h0
  have hjd : j / sz < l.length := div_in h0 (by omega)
  have hjj : j / sz * sz + j % sz = j := by rw [Nat.mul_comm]; exact Nat.div_add_mod j sz
  have h3 := h.cell (j / sz) (j % sz) (by rw [rowsE_len]; exact hjd) hjm
  rw [rowsE_cell enc sz hk l (j / sz) (j % sz) hjd hjm, hjj] at h3
  have e1 : cv xs j = xs[j] := by simp [cv, List.getD_eq_getElem?_getD, List.getElem?_eq_getElem h1]
  have e2 : (flatE enc sz l)[j] = pcE enc sz l j := by simp [flatE]
  rw [e2, ← e1]
  generalize cv xs j = q at h3 ⊢
  cases h3
  rfl
include hk h1 h0 in
theorem pcE_one (l : List α) (j : Nat) : (pcE enc sz l j).oneCell' = true := by
  unfold pcE
  refine h1 (l.getD (j / sz) default) _ ?_
  have hl : j % sz < (enc (l.getD (j / sz) default)).length := by rw [hk]; exact Nat.mod_lt _ h0
  generalize enc (l.getD (j / sz) default) = E at *
  simp [cv, List.getD_eq_getElem?_getD, List.getElem?_eq_getElem hl]
include hk h1 h0 in
theorem rowsE_fits {st : Nat → Prop} {w : World} {l : List α} {e : TypeId} {c : Value} (h : RowRep w e sz c l.length (flatE enc sz l)) : RowFits st w (rowsE enc l) sz e c (flatE enc sz l) := by
  refine ⟨by intro y hy; obtain ⟨x, _, rfl⟩ := List.mem_map.1 hy; simp [hk], h0, by rw [rowsE_len]; exact h, fun x hx => ?_, fun i j hi hj => ?_⟩
  · obtain ⟨j, _, rfl⟩ := List.mem_map.1 hx
    exact pcE_one enc sz hk h1 h0 l j
  · rw [rowsE_len] at hi
    have hin : i * sz + j < l.length * sz := mul_in hi hj
    rw [rowsE_cell enc sz hk l i j hi hj, flatE_get enc sz l (i * sz + j) hin]
    exact .v _
def sortE (cf : α → α → Int) (l : List α) : List α := (pdq (ltOf cf) l.toArray 0 l.toArray.size (Lib.bitLen l.toArray.size) true true).toList
theorem sortE_spec (cf : α → α → Int) (hO : SWO (ltOf cf)) (l : List α) : (sortE cf l).Perm l ∧ (sortE cf l).Pairwise fun x y => ltOf cf y x = false := by
  have h := pdq_sorts (ltOf cf) hO l.toArray 0 l.toArray.size (Lib.bitLen l.toArray.size) true true (Nat.zero_le _) (Nat.le_refl _) (Or.inl rfl)
  obtain ⟨⟨h1, _, h2⟩, h3⟩ := h
  unfold sortE
  generalize pdq (ltOf cf) l.toArray 0 l.toArray.size (Lib.bitLen l.toArray.size) true true = d at *
  have e1 : (d.extract 0 l.toArray.size).toList = d.toList := by rw [← h1]; simp
  have e2 : (l.toArray.extract 0 l.toArray.size).toList = l := by simp
  rw [e1, e2] at h2
  refine ⟨h2, List.pairwise_iff_getElem.2 fun i j hi hj hij => ?_⟩
  have := h3 i j (Nat.zero_le _) hij (by rw [← h1]; simpa using hj)
  rw [getElem!_pos d j (by simpa using hj), getElem!_pos d i (by simpa using hi)] at this
  simpa using this
theorem sortE_len (cf : α → α → Int) (hO : SWO (ltOf cf)) (l : List α) : (sortE cf l).length = l.length := (sortE_spec cf hO l).1.length_eq
include hk h0 in
theorem flatK_getE (l : List α) (j : Nat) (h : j < l.length * sz) : (flatK enc sz l.toArray)[j]! = pcE enc sz l j := by
  rw [get_flatK enc sz l.toArray j (by simpa using h)]
  have hi : j / sz < l.length := div_in h0 h
  have e1 : l.toArray[j / sz]! = l.getD (j / sz) default := by
    rw [getElem!_pos l.toArray _ (by simpa using hi)]
    simp [List.getD_eq_getElem?_getD, hi]
  rw [e1]
  unfold pcE
  have hl : j % sz < (enc (l.getD (j / sz) default)).length := by rw [hk]; exact Nat.mod_lt _ h0
  generalize enc (l.getD (j / sz) default) = E at *
  rw [getElem!_pos E _ hl]
  simp [cv, List.getD_eq_getElem?_getD, List.getElem?_eq_getElem hl]
include hk h1 h0 in
theorem sortE_cc {P : Program} {ρ : Ren} (L : SlLaysF0.n6 P ρ) (aE : ∀ w, (isAgg (ρ.t 24)).run P w = .ok true w) (zE : ∀ w, (Go.sizeOf (ρ.t 24)).run P w = .ok sz w) (hcall : Callable P (ρ.f 6)) (cf : α → α → Int) (hO : SWO (ltOf cf)) (g : Nat)
    (eg : ∀ args w, (callFunc g args).run P w = .ok (.enter g args) w)
    (hcmp : ∀ blk off n w, CmpLays P g #[] enc sz cf blk off n w)
    (l t : List α) (b nm : Nat) (e : TypeId) (hl : l.length < 1000000) : CallC P (ρ.f 6) [.pre b l.length, .fn g []] [(b, .row (rowsE enc (l ++ t)) sz e)] nm (.tup []) [(b, some (.row (rowsE enc (sortE cf l ++ t)) sz e))] := by
  refine ⟨hcall, fun prov β w cs hn hb hi hv => ?_⟩
  have hlk : ∀ n, updL (listH [(b, Blk.row (rowsE enc (l ++ t)) sz e)]) [(b, some (Blk.row (rowsE enc (sortE cf l ++ t)) sz e))] n = if n = b then some (.row (rowsE enc (sortE cf l ++ t)) sz e) else none := by
    intro n; simp only [updL, upd, listH]; split <;> simp
  have hB := hb b (.row (rowsE enc (l ++ t)) sz e) (by simp [listH])
  obtain ⟨xs, hf⟩ := hB
  obtain rfl := fits_rowsE enc sz hk h0 hf
  obtain ⟨hlen, hv⟩ := hv
  match cs, hlen with
  | [c, c2], _ =>
  have g1 := hv 0 (by simp)
  have g2 := hv 1 (by simp)
  simp only [av_zero, cv, List.getD_cons_zero] at g1
  obtain ⟨ad, n, cap, cap', hβ, rfl, hkc, hm⟩ := g1.pre_inv
  obtain ⟨ys, hc2, hy, _⟩ := SimV.fn_inv (f := g) (cs := []) g2
  have hys : ys = [] := List.eq_nil_of_length_eq_zero (by simpa using hy.symm)
  subst hys
  have hc2 : c2 = .func (.func g) #[] #[] := hc2
  subst hc2
  have hsl := sortE_len cf hO l
  have tail : ∀ w', w.grownBy w' (blkOf (β b)) → RowRep w' e sz (β b) (sortE cf l ++ t).length (flatE enc sz (sortE cf l ++ t)) →
      ∃ c β', Ending.returned (Value.tuple #[]) = .returned c ∧ w'.os = w.os ∧ w'.tape = w.tape ∧ w'.output = w.output ∧ w.heap.size ≤ w'.heap.size ∧ Grows β β' ∧ (∀ n, n ≠ nm → β' n = β n) ∧
      (∀ g, g < w.heap.size → (∀ n b', listH [(b, Blk.row (rowsE enc (l ++ t)) sz e)] n = some b' → n ∈ [(b, some (Blk.row (rowsE enc (sortE cf l ++ t)) sz e))].map (·.1) → blkOf (β n) ≠ some g) → w'.heap[g]? = w.heap[g]?) ∧
      SimV (stb (fun g => prov g ∨ w.heap.size ≤ g) w' β' (updL (listH [(b, Blk.row (rowsE enc (l ++ t)) sz e)]) [(b, some (Blk.row (rowsE enc (sortE cf l ++ t)) sz e))])) β' w' (.tup []) c ∧
      (∀ n b', updL (listH [(b, Blk.row (rowsE enc (l ++ t)) sz e)]) [(b, some (Blk.row (rowsE enc (sortE cf l ++ t)) sz e))] n = some b' → n ∈ [(b, some (Blk.row (rowsE enc (sortE cf l ++ t)) sz e))].map (·.1) → BlkRep (stb (fun g => prov g ∨ w.heap.size ≤ g) w' β' (updL (listH [(b, Blk.row (rowsE enc (l ++ t)) sz e)]) [(b, some (Blk.row (rowsE enc (sortE cf l ++ t)) sz e))])) β' w' b' (β' n) ∧
        ∀ g, blkOf (β' n) = some g → w.heap.size ≤ g ∨ ∃ m b', listH [(b, Blk.row (rowsE enc (l ++ t)) sz e)] m = some b' ∧ m ∈ [(b, some (Blk.row (rowsE enc (sortE cf l ++ t)) sz e))].map (·.1) ∧ blkOf (β m) = some g) ∧
      Inj β' (updL (listH [(b, Blk.row (rowsE enc (l ++ t)) sz e)]) [(b, some (Blk.row (rowsE enc (sortE cf l ++ t)) sz e))]) := by
    intro w' hg hr
    refine ⟨_, β, rfl, hg.os, hg.tape, hg.output, hg.size, Grows.refl _, fun _ _ => rfl, fun g hgl hno => ?_, .pure (.tup [] [] rfl (fun j hj => by simp at hj)), fun n b' hb' _ => ?_, ?_⟩
    · exact hg.block g hgl (fun e' => hno b (.row (rowsE enc (l ++ t)) sz e) (by simp [listH]) (by simp) e'.symm)
    · rw [hlk] at hb'
      split at hb'
      · rename_i hnb; subst hnb
        simp at hb'; subst hb'
        exact ⟨⟨_, rowsE_fits enc sz hk h1 h0 hr⟩, fun g hgb => .inr ⟨n, .row (rowsE enc (l ++ t)) sz e, by simp [listH], by simp, hgb⟩⟩
      · cases hb'
    · intro n m b1 b2 g h1 h2 _ _
      rw [hlk] at h1 h2
      split at h1
      · split at h2
        · simp_all
        · cases h2
      · cases h1
  rw [hβ] at hf
  obtain ⟨hnl, hnc, hcm, hpos⟩ := row_cap hf
  rw [rowsE_len] at hnl
  by_cases hl0 : l = []
  · subst hl0
    have hs0 : sortE cf [] = [] := List.eq_nil_of_length_eq_zero hsl
    refine (AnyF.slices_SortFunc_none L ad cap' (.func (.func g) #[] #[]) w).mono fun e' w' ⟨he, hw⟩ => ?_
    subst he; subst hw
    refine tail w' ⟨rfl, rfl, rfl, Nat.le_refl _, fun _ _ _ => rfl⟩ ?_
    rw [hs0]
    have := hf.row
    rw [rowsE_len] at this
    rw [hβ]
    exact this
  · have hlp : 0 < l.length := List.length_pos_iff.2 hl0
    obtain ⟨gb, cur, rfl, hg, hcur, htk⟩ := hpos (by rw [hnl]; simp; omega)
    have hlt : gb < w.heap.size := (Array.getElem?_eq_some_iff.1 hg).1
    rw [rowsE_len] at htk
    have hla : (l ++ t).length = l.length + t.length := by simp
    have hcs : (l ++ t).length * sz ≤ cur.size := by rw [hcur]; exact Nat.mul_le_mul_right _ (by omega)
    have hcell : ∀ j, j < (l ++ t).length * sz → cur[j]? = some (pcE enc sz (l ++ t) j) := by
      intro j hj
      have h3 : (cur.toList.take ((l ++ t).length * sz))[j]? = (flatE enc sz (l ++ t))[j]? := by rw [htk]
      rw [List.getElem?_take_of_lt hj] at h3
      rw [← Array.getElem?_toList, h3]
      unfold flatE
      rw [List.getElem?_map, List.getElem?_range hj]
      rfl
    have pl : ∀ j, j < l.length * sz → pcE enc sz (l ++ t) j = pcE enc sz l j := by
      intro j hj
      unfold pcE
      have : (l ++ t).getD (j / sz) default = l.getD (j / sz) default := by
        simp only [List.getD_eq_getElem?_getD]
        rw [List.getElem?_append_left (div_in h0 hj)]
      rw [this]
    have pr : ∀ j, l.length * sz ≤ j → pcE enc sz (sortE cf l ++ t) j = pcE enc sz (l ++ t) j := by
      intro j hj
      unfold pcE
      have : (sortE cf l ++ t).getD (j / sz) default = (l ++ t).getD (j / sz) default := by
        simp only [List.getD_eq_getElem?_getD]
        have hd : l.length ≤ j / sz := (Nat.le_div_iff_mul_le h0).2 hj
        rw [List.getElem?_append_right (by omega), List.getElem?_append_right (by omega), hsl]
      rw [this]
    have pl2 : ∀ j, j < l.length * sz → pcE enc sz (sortE cf l ++ t) j = pcE enc sz (sortE cf l) j := by
      intro j hj
      unfold pcE
      have : (sortE cf l ++ t).getD (j / sz) default = (sortE cf l).getD (j / sz) default := by
        simp only [List.getD_eq_getElem?_getD]
        rw [List.getElem?_append_left (by rw [hsl]; exact div_in h0 hj)]
      rw [this]
    have hH : HoldsK enc sz w gb 0 l.toArray := by
      intro j hj
      rw [size_flatK] at hj
      have hj : j < l.length * sz := by simpa using hj
      refine ⟨?_, by simp [World.frozen?, hg]⟩
      rw [flatK_getE enc sz hk h0 l j hj]
      simp only [World.cell?, hg, Nat.zero_add, Option.isSome_none, Bool.false_eq_true, if_false, id]
      have hmul : l.length * sz ≤ (l ++ t).length * sz := Nat.mul_le_mul_right _ (by simp)
      rw [hcell j (by omega), pl j hj]
    have key := AnyQ.slices_SortFunc_eq L sz aE zE enc hk h1 cf hO g #[] gb 0 cap' l.toArray w eg (hcmp _ _ _ _) hH hlt (by simp; omega)
    have es : l.toArray.size = l.length := by simp
    rw [es] at key
    refine key.mono fun e' w' ⟨he, q, os, hw⟩ => ?_
    subst he
    have hsp : (pdq (ltOf cf) l.toArray 0 l.length (Lib.bitLen l.length) true true) = (sortE cf l).toArray := by unfold sortE; simp
    rw [hsp] at hw
    subst hw
    have hbk : blkOf (β b) = some gb := by rw [hβ]; simp [blkOf]; omega
    refine tail _ ?_ ?_
    · rw [hbk]; exact grownBy_sortP _
    · have hla2 : (sortE cf l ++ t).length = n := by simp [hsl]; omega
      rw [hβ, hla2]
      refine .inr ⟨gb, cap, rfl, by omega, by rw [flatE_len, hla2], .inr ⟨gb, cap, _, rfl, Nat.zero_le _, heap_sortP _ hg, hnc, hcm, by simp [putCells, hcur], ?_⟩⟩
      apply List.ext_getElem?
      intro j
      by_cases hj : j < n * sz
      · rw [List.getElem?_take_of_lt hj, Array.getElem?_toList]
        have e1 : (flatE enc sz (sortE cf l ++ t))[j]? = some (pcE enc sz (sortE cf l ++ t) j) := by
          unfold flatE
          rw [List.getElem?_map, List.getElem?_range (by rw [hla2]; exact hj)]
          rfl
        rw [e1]
        simp only [putCells, Array.getElem?_mapIdx, size_flatK, List.size_toArray, hsl, Nat.zero_le, Nat.zero_add, true_and, Nat.sub_zero, id]
        rw [hcell j (by rw [← hnl]; exact hj)]
        simp only [Option.map_some]
        by_cases h3 : j < l.length * sz
        · rw [if_pos h3, flatK_getE enc sz hk h0 _ j (by rw [hsl]; exact h3), pl2 j h3]
        · rw [if_neg h3, pr j (by omega)]
      · rw [List.getElem?_take_eq_none (by omega), List.getElem?_eq_none (by rw [flatE_len, hla2]; omega)]
end
end Go.Ab
namespace Go.Proofs
open Go.Shelf
def Tryz.sortWk_ren : Go.Shelf.Ren := ⟨fun | 6 => 63 | 15 => 84 | 14 => 83 | 28 => 100 | 29 => 101 | 20 => 92 | 21 => 93 | 22 => 94 | 23 => 95 | 24 => 96 | 25 => 97 | 26 => 98 | 27 => 99 | 46 => 115 | 47 => 116 | 48 => 117 | 49 => 118 | 50 => 119 | 57 => 127 | n => n, fun | 22 => 22 | 24 => 53 | 25 => 82 | 3 => 3 | 39 => 118 | 0 => 0 | 53 => 134 | 55 => 136 | 4 => 4 | 46 => 127 | 45 => 126 | 50 => 131 | 5 => 5 | 9 => 9 | 66 => 145 | 70 => 149 | 76 => 157 | 77 => 158 | n => n, fun | n => n⟩
theorem Tryz.sortWk : Go.Proofs.SlLaysF0.n6 Tryz.prog Tryz.sortWk_ren := {
  mixed := by kernel_rfl
  f6 := ⟨Tryz.f63.name, by decide, Tryz.func63.trans (congrArg some (by kernel_rfl))⟩
  f14 := ⟨Tryz.f83.name, by decide, Tryz.func83.trans (congrArg some (by kernel_rfl))⟩
  f15 := Tryz.func84.trans (congrArg some (by kernel_rfl))
  f20 := ⟨Tryz.f92.name, by decide, Tryz.func92.trans (congrArg some (by kernel_rfl))⟩
  f21 := ⟨Tryz.f93.name, by decide, Tryz.func93.trans (congrArg some (by kernel_rfl))⟩
  f22 := ⟨Tryz.f94.name, by decide, Tryz.func94.trans (congrArg some (by kernel_rfl))⟩
  f23 := ⟨Tryz.f95.name, by decide, Tryz.func95.trans (congrArg some (by kernel_rfl))⟩
  f24 := ⟨Tryz.f96.name, by decide, Tryz.func96.trans (congrArg some (by kernel_rfl))⟩
  f25 := ⟨Tryz.f97.name, by decide, Tryz.func97.trans (congrArg some (by kernel_rfl))⟩
  f26 := ⟨Tryz.f98.name, by decide, Tryz.func98.trans (congrArg some (by kernel_rfl))⟩
  f27 := ⟨Tryz.f99.name, by decide, Tryz.func99.trans (congrArg some (by kernel_rfl))⟩
  f28 := Tryz.func100.trans (congrArg some (by kernel_rfl))
  f29 := Tryz.func101.trans (congrArg some (by kernel_rfl))
  f46 := ⟨Tryz.f115.name, by decide, Tryz.func115.trans (congrArg some (by kernel_rfl))⟩
  f47 := Tryz.func116.trans (congrArg some (by kernel_rfl))
  f48 := Tryz.func117.trans (congrArg some (by kernel_rfl))
  f49 := ⟨Tryz.f118.name, by decide, Tryz.func118.trans (congrArg some (by kernel_rfl))⟩
  f50 := ⟨Tryz.f119.name, by decide, Tryz.func119.trans (congrArg some (by kernel_rfl))⟩
  f57 := ⟨Tryz.f127.name, by decide, Tryz.func127.trans (congrArg some (by kernel_rfl))⟩
  t0 := Tryz.underlying0
  a0 := Tryz.isAgg0
  z0 := Tryz.sizeOf0
  v0 := Tryz.zeroValue0
  t3 := Tryz.underlying3
  a3 := Tryz.isAgg3
  z3 := Tryz.sizeOf3
  v3 := Tryz.zeroValue3
  t4 := Tryz.underlying4
  a4 := Tryz.isAgg4
  z4 := Tryz.sizeOf4
  v4 := Tryz.zeroValue4
  t5 := Tryz.underlying5
  a5 := Tryz.isAgg5
  z5 := Tryz.sizeOf5
  v5 := Tryz.zeroValue5
  t9 := Tryz.underlying9
  a9 := Tryz.isAgg9
  z9 := Tryz.sizeOf9
  v9 := Tryz.zeroValue9
  t22 := Tryz.underlying22
  a22 := Tryz.isAgg22
  z22 := Tryz.sizeOf22
  v22 := Tryz.zeroValue22
  t25 := Tryz.underlying82
  a25 := Tryz.isAgg82
  z25 := Tryz.sizeOf82
  v25 := Tryz.zeroValue82
  t39 := Tryz.underlying118
  a39 := Tryz.isAgg118
  z39 := Tryz.sizeOf118
  v39 := Tryz.zeroValue118
  t45 := Tryz.underlying126
  a45 := Tryz.isAgg126
  z45 := Tryz.sizeOf126
  v45 := Tryz.zeroValue126
  t46 := Tryz.underlying127
  a46 := Tryz.isAgg127
  z46 := Tryz.sizeOf127
  v46 := Tryz.zeroValue127
  t50 := Tryz.underlying131
  a50 := Tryz.isAgg131
  z50 := Tryz.sizeOf131
  v50 := Tryz.zeroValue131
  t53 := Tryz.underlying134
  a53 := Tryz.isAgg134
  z53 := Tryz.sizeOf134
  v53 := Tryz.zeroValue134
  t55 := Tryz.underlying136
  a55 := Tryz.isAgg136
  z55 := Tryz.sizeOf136
  v55 := Tryz.zeroValue136
  t66 := Tryz.underlying145
  a66 := Tryz.isAgg145
  z66 := Tryz.sizeOf145
  v66 := Tryz.zeroValue145
  t70 := Tryz.underlying149
  a70 := Tryz.isAgg149
  z70 := Tryz.sizeOf149
  v70 := Tryz.zeroValue149
  t76 := Tryz.underlying157
  a76 := Tryz.isAgg157
  z76 := Tryz.sizeOf157
  v76 := Tryz.zeroValue157
  t77 := Tryz.underlying158
  a77 := Tryz.isAgg158
  z77 := Tryz.sizeOf158
  v77 := Tryz.zeroValue158 }
end Go.Proofs
namespace Go.Proofs
open Go Go.Ab Go.Shelf Go.RowKit Go.Lib Go.Sort
set_option maxRecDepth 100000
theorem nan65 (s : ByteArray) (w : World) : Calls Tryz.prog 65 #[.string s] w fun e w' => e = .returned (.bool false) ∧ w' = w := by
 go_enter Tryz.func65, Tryz.ntmps65
 go_wp2
 go_ret
 exact ⟨by simp, rfl⟩
def gtS (a b : ByteArray) : Bool := !(strLess a b || a.toList == b.toList)
def cmpT (a b : ByteArray) : Int := if strLess a b then -1 else if gtS a b then 1 else 0
theorem gtr41 (a b : ByteArray) (w : World) : (Go.binOp .gtr 9 (.string a) (.string b)).run Tryz.prog w = .ok (.bool !(Op.bytesLess a.toList b.toList || a.toList == b.toList)) w := by
 simp [Go.binOp, Op.stringOp, go_sem]
set_option maxHeartbeats 1000000 in
theorem cmp41 (a b : ByteArray) (w : World) : Calls Tryz.prog 41 #[.string a, .string b] w fun e w' => e = .returned (.int .i64 (cmpT a b)) ∧ w' = w := by
 cases h : Op.bytesLess a.toList b.toList
 ·cases h2 : (a.toList == b.toList)
  ·have hgt := gtr41 a b
   rw [h, h2] at hgt
   have e1 : cmpT a b = 1 := by unfold cmpT gtS strLess; rw [h, h2]; rfl
   rw [e1]
   clear e1
   go_enter Tryz.func41, Tryz.ntmps41
   go_wp2_with (go_at_call 65; refine (nan65 _ _).mono ?_; rintro e w' ⟨rfl, hw⟩; rw [hw])
   go_ret
   exact ⟨rfl, rfl⟩
  ·have hgt := gtr41 a b
   rw [h, h2] at hgt
   have e1 : cmpT a b = 0 := by unfold cmpT gtS strLess; rw [h, h2]; rfl
   rw [e1]
   clear e1
   go_enter Tryz.func41, Tryz.ntmps41
   go_wp2_with (go_at_call 65; refine (nan65 _ _).mono ?_; rintro e w' ⟨rfl, hw⟩; rw [hw])
   go_ret
   exact ⟨rfl, rfl⟩
 ·have e1 : cmpT a b = -1 := by unfold cmpT strLess; rw [h]; rfl
  rw [e1]
  clear e1
  go_enter Tryz.func41, Tryz.ntmps41
  go_wp2_with (go_at_call 65; refine (nan65 _ _).mono ?_; rintro e w' ⟨rfl, hw⟩; rw [hw])
  go_ret
  exact ⟨rfl, rfl⟩
set_option maxHeartbeats 8000000 in
theorem closure40 (x y : W5) (W : World) : Calls Tryz.prog 40 #[.agg #[.string x.s, .int .i64 x.h, .int .i64 x.l, .int .i64 x.w, .slice x.p x.n x.k], .agg #[.string y.s, .int .i64 y.h, .int .i64 y.l, .int .i64 y.w, .slice y.p y.n y.k]] W fun e w' => e = .returned (.int .i64 (cmpT x.s y.s)) ∧ ∃ q os', w' = grow (W.drewN q) os' := by
 have hcon := fun W' => cmp41 x.s y.s W'
 generalize cmpT x.s y.s = r at hcon ⊢
 go_enter Tryz.func40, Tryz.ntmps40
 go_wp2_with (go_at_call 41; refine (hcon _).mono ?_; rintro e w' ⟨rfl, rfl⟩)
 go_ret
 refine ⟨rfl, 0, #[Obj.cells #[.string x.s, .int .i64 x.h, .int .i64 x.l, .int .i64 x.w, .slice x.p x.n x.k] 53] ++ #[Obj.cells #[.string y.s, .int .i64 y.h, .int .i64 y.l, .int .i64 y.w, .slice y.p y.n y.k] 53], ?_⟩
 rw [alloc_eq_grow, alloc_eq_grow, grow_grow]; rfl
def cfW (x y : W5) : Int := cmpT x.s y.s
theorem ltW (x y : W5) : ltOf cfW x y = strLess x.s y.s := by
 unfold ltOf cfW cmpT gtS
 cases h : strLess x.s y.s
 ·cases h2 : (x.s.toList == y.s.toList) <;> simp
 ·simp
theorem strLess_ntrans {a b c : ByteArray} (h : strLess a b = false) (k : strLess b c = false) : strLess a c = false := by
 rw [Bool.eq_false_iff] at *
 rw [ne_eq, strLess_iff] at *
 intro hac
 have h1 := List.not_lt.1 h
 have h2 := List.not_lt.1 k
 exact List.not_lt.2 (List.le_trans h2 h1) hac
theorem swoW : SWO (ltOf cfW) where
 irrefl x := by rw [ltW]; exact strLess_irrefl _
 trans x y z h1 h2 := by rw [ltW] at *; exact strLess_trans h1 h2
 ntrans x y z h1 h2 := by rw [ltW] at *; exact strLess_ntrans h1 h2
theorem cmpLays40 (blk off n : Nat) (w : World) : CmpLays Tryz.prog 40 #[] W5.cells 5 cfW blk off n w :=
 fun _ _ _ _ x y => closure40 x y _
theorem w5_one (x : W5) : ∀ v ∈ x.cells, v.oneCell' = true := fun v hv => by
 simp [W5.cells] at hv
 rcases hv with rfl | rfl | rfl | rfl | rfl <;> rfl
theorem sort_world (ss : List W5) (v : Value) (w : World) (base : Nat) (ho : w.ownsRow base 53 5 v ss.length (flat5 ss)) (hl : ss.length < 1000000) :
  Calls Tryz.prog 63 #[v, .func (.func 40) #[] #[]] w fun e w' => e = .returned (.tuple #[]) ∧ w'.os = w.os ∧ w'.tape = w.tape ∧ w'.output = w.output ∧ w.heap.size ≤ w'.heap.size ∧
   (∀ g, g < w.heap.size → blkOf v ≠ some g → w'.heap[g]? = w.heap[g]?) ∧ ∃ xs, RowFits (fun _ => True) w' (rowsE W5.cells (sortE cfW ss)) 5 53 v xs := by
 obtain ⟨ad, cap, rfl, hcm⟩ : ∃ ad cap, v = .slice ad ss.length cap ∧ ss.length ≤ cap ∧ cap ≤ maxLen := by
  rcases ho.2 with ⟨h, h0⟩ | ⟨g, cap, cur, h, _, _, h1, h2, _⟩
  ·exact ⟨none, 0, by rw [h, h0], by omega, by unfold maxLen; omega⟩
  ·exact ⟨_, cap, h, h1, h2⟩
 have key := (sortE_cc W5.cells 5 (fun _ => rfl) w5_one (by decide) Tryz.sortWk (fun w => Tryz.isAgg53 w) (fun w => Tryz.sizeOf53 w) ⟨_, Tryz.func63, by kernel_rfl, by kernel_rfl⟩ cfW swoW 40 (enters_of Tryz.func40 (by kernel_rfl) rfl) cmpLays40 ss [] 0 1 53 hl).2
 rw [List.append_nil, List.append_nil] at key
 refine (key (fun _ => True) (fun n => if n = 0 then .slice ad ss.length cap else undef) w [.slice ad ss.length cap, .func (.func 40) #[] #[]] rfl ?_ ?_ ?_).mono ?_
 ·intro n b hb
  simp only [listH] at hb
  split at hb
  ·rename_i h0
   simp only [Option.some.injEq] at hb
   subst hb
   rw [if_pos h0]
   refine ⟨flat5 ss, fun x hx => by obtain ⟨y, _, rfl⟩ := List.mem_map.1 hx; rfl, by decide, by rw [rowsE_len]; exact RowRep.of_owns ho, fun u hu => ?_, fun i j hi hj => ?_⟩
   ·simp only [flat5, List.mem_flatMap] at hu
    obtain ⟨x, _, hx⟩ := hu
    exact w5_one x u hx
   ·rw [rowsE_len] at hi
    rw [flat5_at ss default i j hi hj, rowsE_cell W5.cells 5 (fun _ => rfl) ss i j hi hj]
    unfold pcE
    rw [(divs hj).1, (divs hj).2]
    exact .v _
  ·cases hb
 ·intro n m b b' g h1 h2 _ _
  simp only [listH] at h1 h2
  split at h1
  ·split at h2
   ·omega
   ·cases h2
  ·cases h1
 ·refine ⟨rfl, fun j hj => ?_⟩
  match j, hj with
  | 0, _ => exact .pre 0 ss.length rfl hcm.1 hcm.2
  | 1, _ => exact .pure (.fn 40 [] [] rfl (fun j hj => by simp at hj))
 ·rintro e w' ⟨c, β', rfl, h1, h2, h3, h4, hG, hn, hheap, hc, hrep, _⟩
  obtain ⟨xs, hcx, hxl, _⟩ := hc.tup_inv
  have : xs = [] := List.eq_nil_of_length_eq_zero (by simpa using hxl.symm)
  subst this
  refine ⟨by rw [hcx], h1, h2, h3, h4, fun g hg hno => hheap g hg fun n b hb _ => ?_, ?_⟩
  ·simp only [listH] at hb
   split at hb
   ·rename_i h0; rw [if_pos h0]; exact hno
   ·cases hb
  ·have := (hrep 0 (.row (rowsE W5.cells (sortE cfW ss)) 5 53) (by simp [updL, upd]) (by simp)).1
   have hβ : β' 0 = .slice ad ss.length cap := by rw [hn 0 (by decide)]; rfl
   rw [hβ] at this
   obtain ⟨xs, hf⟩ := this
   exact ⟨xs, hf.z, hf.pos, hf.row, hf.one, fun i j hi hj => (hf.cell i j hi hj).mono fun _ _ => ⟨trivial, rfl⟩⟩
def insW (q : Wk) : List Wk → List Wk
 | [] => [q]
 | x :: l => if strLess q.id x.id then q :: x :: l else x :: insW q l
def sortW (l : List Wk) : List Wk := l.foldr insW []
theorem insW_perm (q : Wk) : ∀ l, (insW q l).Perm (q :: l)
 | [] => List.Perm.refl _
 | x :: l => by
  unfold insW
  split
  ·exact List.Perm.refl _
  ·exact ((insW_perm q l).cons x).trans (List.Perm.swap q x l)
theorem sortW_perm : ∀ l : List Wk, (sortW l).Perm l
 | [] => List.Perm.refl _
 | q :: l => (insW_perm q (sortW l)).trans ((sortW_perm l).cons q)
theorem strLess_asymm {a b : ByteArray} (h : strLess a b = true) : strLess b a = false := by
 rw [Bool.eq_false_iff]
 intro k
 have := strLess_trans h k
 rw [strLess_irrefl] at this
 cases this
theorem insW_asc (q : Wk) : ∀ l : List Wk, l.Pairwise (fun x y => strLess y.id x.id = false) → (insW q l).Pairwise (fun x y => strLess y.id x.id = false)
 | [], _ => List.pairwise_singleton _ _
 | x :: l, h => by
  obtain ⟨h1, h2⟩ := List.pairwise_cons.1 h
  unfold insW
  split
  ·rename_i hq
   refine List.pairwise_cons.2 ⟨fun y hy => ?_, h⟩
   rcases List.mem_cons.1 hy with rfl | hy
   ·exact strLess_asymm hq
   ·exact strLess_ntrans (h1 y hy) (strLess_asymm hq)
  ·rename_i hq
   refine List.pairwise_cons.2 ⟨fun y hy => ?_, insW_asc q l h2⟩
   rcases List.mem_cons.1 ((insW_perm q l).mem_iff.1 hy) with rfl | hy
   ·simpa using hq
   ·exact h1 y hy
theorem sortW_asc : ∀ l : List Wk, (sortW l).Pairwise (fun x y => strLess y.id x.id = false)
 | [] => List.Pairwise.nil
 | q :: l => insW_asc q _ (sortW_asc l)
theorem sortW_len (l : List Wk) : (sortW l).length = l.length := (sortW_perm l).length_eq
theorem str_eq {a b : ByteArray} (h : a.toList = b.toList) : a = b := by
 rw [ByteArray.toList_eq, ByteArray.toList_eq] at h
 obtain ⟨x⟩ := a
 obtain ⟨y⟩ := b
 have : x = y := by simpa using h
 rw [this]
theorem str_unique {A B : List ByteArray} (h : A.Perm B) (ha : A.Pairwise (fun x y => strLess y x = false)) (hb : B.Pairwise (fun x y => strLess y x = false)) : A = B :=
 List.Perm.eq_of_pairwise (fun a b _ _ h1 h2 => str_eq (strLess_tri a b h2 h1)) ha hb h
theorem vinv {st : Nat → Prop} {w : World} {x c : Value} (h : PureV st w (.v x) c) : c = x := by cases h; rfl
theorem sorted_ok (l : List Wk) (hl : l.length < 1000000) (hnd : (l.map (·.id)).Nodup) : PureOwn Tryz.prog 38 [.fn 64 [.rp [.sl (wks l)]], .fn 40 []] (wks (sortW l)) 5 53 := by
 refine ⟨⟨_, Tryz.func38, by kernel_rfl, by kernel_rfl⟩, fun ok w cs ⟨hlen, hv⟩ => ?_⟩
 match cs, hlen with
 | [c, c2], _ =>
 have h1 := hv 0 (by simp)
 have h2 := hv 1 (by simp)
 simp only [av_zero, av_succ, cv, List.getD_cons_zero, List.getD_cons_succ] at h1 h2
 have hc2 : c2 = .func (.func 40) #[] #[] := by
  cases h2 with
  | fn _ _ xs hxl _ =>
   have : xs = [] := List.eq_nil_of_length_eq_zero (by simpa using hxl.symm)
   subst this; rfl
 subst hc2
 have hcol := collect_world l hl ok w c h1
 clear h1 h2 hv
 show Calls Tryz.prog 38 #[c, .func (.func 40) #[] #[]] w _
 go_enter Tryz.func38, Tryz.ntmps38
 go_wp2_with (first
  | (go_at_call 62; refine hcol.mono ?_; rintro e w1 ⟨v, ss, rfl, hsl, ho, hb, hp⟩)
  | (go_at_call 63; refine (sort_world ss v w1 _ ho (by omega)).mono ?_; rintro e w2 ⟨rfl, g1, g2, g3, g4, g5, xs, hf⟩))
 go_ret
 have hblk : ∀ g, blkOf v = some g → w.heap.size ≤ g := by
  intro g hg
  rcases ho.2 with ⟨h, _⟩ | ⟨g', cap, cur, h, hge, _⟩
  ·rw [h] at hg; simp [blkOf] at hg
  ·rw [h] at hg
   simp only [blkOf] at hg
   split at hg
   ·cases hg
   ·simp only [Option.some.injEq] at hg; omega
 have hx := fits_rowsE W5.cells 5 (fun _ => rfl) (by decide) hf
 subst hx
 have hold : ∀ g, g < w.heap.size → w2.heap[g]? = w.heap[g]? := fun g hg => (g5 g (Nat.lt_of_lt_of_le hg hb.size) (fun e => by have := hblk g e; omega)).trans (hb.block g hg)
 have hS := sortE_spec cfW swoW ss
 have hSl : (sortE cfW ss).length = l.length := by rw [hS.1.length_eq, hsl]
 have hss : ss.map (·.s) = l.map (·.id) := by
  apply List.ext_getElem (by simp [hsl])
  intro i a1 a2
  have hi : i < l.length := by simpa using a2
  have hi2 : i < ss.length := by omega
  have q := hp i 0 hi (by omega)
  rw [wks_at l i hi] at q
  simp only [av, Wk.cells, List.getD_cons_zero] at q
  have q2 := vinv q
  simp only [List.getD_eq_getElem?_getD, List.getElem?_eq_getElem hi, List.getElem?_eq_getElem hi2, Option.getD_some, cv, W5.cells, List.getElem?_cons_zero] at q2
  simpa using q2
 have hids : (sortE cfW ss).map (·.s) = (sortW l).map (·.id) := by
  refine str_unique ?_ ?_ ?_
  ·exact ((hS.1.map _).trans (List.Perm.of_eq hss)).trans ((sortW_perm l).map _).symm
  ·rw [List.pairwise_map]
   refine hS.2.imp fun {x y} h => ?_
   rw [ltW] at h
   exact h
  ·rw [List.pairwise_map]
   exact sortW_asc l
 refine ⟨v, rfl, ⟨g1.trans hb.os, g2.trans hb.tape, g3.trans hb.output, Nat.le_trans hb.size g4, hold⟩, ?_, ⟨_, wks_one _, by decide, ?_, hf.one, fun i j hi hj => ?_⟩, hblk⟩
 ·rcases ho.2 with ⟨h, _⟩ | ⟨g, cap, cur, h, _⟩
  ·exact ⟨_, _, _, h⟩
  ·exact ⟨_, _, _, h⟩
 ·have := hf.row
  rwa [rowsE_len, hSl, ← sortW_len l, ← wks_len] at this
 ·rw [wks_len] at hi
  have hil : i < l.length := by rw [sortW_len] at hi; exact hi
  have hiS : i < (sortE cfW ss).length := by omega
  have hcell : cv (flatE W5.cells 5 (sortE cfW ss)) (i * 5 + j) = cv ((sortE cfW ss).getD i default).cells j := by
   rw [flatE_get W5.cells 5 _ _ (mul_in hiS hj)]
   unfold pcE
   rw [(divs hj).1, (divs hj).2]
  rw [hcell]
  have hxm : (sortE cfW ss).getD i default ∈ ss := hS.1.mem_iff.1 (by rw [List.getD_eq_getElem?_getD, List.getElem?_eq_getElem hiS]; exact List.getElem_mem hiS)
  have hqm : (sortW l).getD i zeroWk ∈ l := (sortW_perm l).mem_iff.1 (by rw [List.getD_eq_getElem?_getD, List.getElem?_eq_getElem hi]; exact List.getElem_mem hi)
  have hid : ((sortE cfW ss).getD i default).s = ((sortW l).getD i zeroWk).id := by
   have := congrArg (fun L => L[i]?) hids
   simp only [List.getElem?_map, List.getElem?_eq_getElem hiS, List.getElem?_eq_getElem hi, Option.map_some, Option.some.injEq] at this
   simpa [List.getD_eq_getElem?_getD, hiS, hi] using this
  obtain ⟨k, hk, hkx⟩ := List.getElem_of_mem hxm
  obtain ⟨k2, hk2, hkq⟩ := List.getElem_of_mem hqm
  have hkk : k = k2 := by
   have e1 : (l.map (·.id))[k]? = some ((sortE cfW ss).getD i default).s := by
    rw [← hss, List.getElem?_map, List.getElem?_eq_getElem hk, hkx]; rfl
   have e2 : (l.map (·.id))[k2]? = some ((sortW l).getD i zeroWk).id := by
    rw [List.getElem?_map, List.getElem?_eq_getElem hk2, hkq]; rfl
   rw [hid] at e1
   exact (List.getElem?_inj (by simpa using (by omega : k < l.length)) hnd).1 (e1.trans e2.symm)
  subst hkk
  have q := hp k j hk2 hj
  rw [wks_at l k hk2] at q
  rw [wks_at _ i hi]
  have e3 : l.getD k zeroWk = (sortW l).getD i zeroWk := by rw [← hkq]; simp [List.getD_eq_getElem?_getD, hk2]
  have e4 : ss.getD k default = (sortE cfW ss).getD i default := by rw [← hkx]; simp [List.getD_eq_getElem?_getD, hk]
  rw [e3, e4] at q
  exact q.mono fun g hg => ⟨⟨Nat.lt_of_lt_of_le (Nat.lt_of_lt_of_le hg.1 hb.size) g4, .inl hg.2, fun e => by have := hblk g e; omega⟩, hold g hg.1⟩
end Go.Proofs
namespace Go.Proofs
open Go Go.Ab
set_option maxHeartbeats 8000000
set_option maxRecDepth 100000
attribute [local irreducible] Awp aops aopsL Go.Ab.Pure PureOwn PureTwoM
theorem values_ok (l : List Wk) : Pure Tryz.prog 39 [.sl (wks l)] (.fn 64 [.rp [.sl (wks l)]]) := by
 refine fn_pure Tryz.F39 (Nat.le_of_ble_eq_true rfl) ?_; unfold Tryz.ac39 AR AM AO
 repeat' (first
  | (apply Awp.sreg; (case hn => (simp only [List.length_cons, List.length_nil, Nat.reduceAdd] <;> rfl)))
  | (refine st_nil ?_)
  | (apply st_a; (case hc => rfl); (case he => (simp only [go_sem, *] <;> rfl)); (case hu => (simp only [updL_nil, updL_cons] <;> rfl)); (case hp => first | trivial))
  | (refine Awp.ret ?_; try simp only [go_sem, *]))
 refine Lower.fn rfl fun j hj => ?_
 match j, hj with
 | 0, _ =>
  refine Lower.bp (cs := [.sl (wks l)]) (cs' := [.sl (wks l)]) rfl rfl (Nat.zero_le _) fun j hj => ?_
  match j, hj with
  | 0, _ => exact Lower.same _ rfl
theorem indexSt_ok (l : List ByteArray) (g : Nat) (cs : List AV) (p : ByteArray → Bool) (hl : l.length < 1000000) (hp : ∀ i, i < l.length → Pure Tryz.prog g (.v (.string (l.getD i ⟨#[]⟩)) :: [.rp cs]) (.v (.bool (p (l.getD i ⟨#[]⟩))))) :
  Pure Tryz.prog 66 [.sl (strs l), .fn g [.rp cs]] (.v (.int .i64 (idxF p l))) := by
 have hln : (strs l).length = l.length := by simp [strs]
 refine fn_pure Tryz.F66 (Nat.le_of_ble_eq_true rfl) ?_; unfold Tryz.ac66 AR AM AO
 repeat' (first
  | (apply Awp.sreg; (case hn => (simp only [List.length_cons, List.length_nil, Nat.reduceAdd] <;> rfl)))
  | (refine st_nil ?_)
  | (apply st_a; (case hc => rfl); (case he => (simp only [go_sem, *] <;> rfl)); (case hu => (simp only [updL_nil, updL_cons] <;> rfl)); (case hp => first | trivial))
  | refine Awp.block ?_
  | refine Awp.seq ?_)
 refine Awp.loop (fun i : Nat => i ≤ l.length ∧ ∀ j, j < i → p (l.getD j ⟨#[]⟩) = false) 40 (fun i => mkS [(0, .sl (strs l)), (1, .fn g [.rp cs]), (7, .v (.int .i64 l.length)), (8, .v (.int .i64 i))] []) (fun i => l.length - i) 0 (by simp) ?_ ?_
 ·(apply Ghost.mk [] []; (case hdead => rfl); (case hinj => rfl); (case hV => (simp only [go_sem, *]) <;> (repeat' (first | refine And.intro ?_ ?_ | exact View.int (by first | rfl | omega | (simp; done) | (rw [wrap_i64] <;> (try simp only [Int.natCast_add]) <;> omega) | (simp [*]; done)) | (refine View.fnF ?_; (simp [AV.flat]; done))))); (case hB => (simp only [go_sem, *]) <;> (repeat' (first | skip; done))))
 ·intro i ⟨hi, hj⟩
  by_cases hlt : i < l.length
  ·have hlt' : (i : Int) < l.length := by omega
   have hat := strs_at l i hlt
   have hpi := hp i hlt
   clear hp
   repeat' (first
  | (apply Awp.sreg; (case hn => (simp only [List.length_cons, List.length_nil, Nat.reduceAdd] <;> rfl)))
  | (refine st_nil ?_)
  | (apply st_a; (case hc => rfl); (case he => (simp only [go_sem, *] <;> rfl)); (case hu => (simp only [updL_nil, updL_cons] <;> rfl)); (case hp => first | trivial | omega))
  | (apply st_c; (case hc => (simp only [go_sem, *] <;> rfl)); (case hl => (simp only [go_sem, *] <;> rfl)); (case hn => (simp only [go_sem, *] <;> rfl)); (case hp => first | exact hpi | (have hXz := hpi; simp only [go_sem, *] at hXz; exact hXz)))
  | (apply Awp.reg; (case hn => (simp only [List.length_cons, List.length_nil, Nat.reduceAdd] <;> rfl)))
  | (refine Awp.ret ?_; try simp only [go_sem, *])
  | (refine Awp.skip ?_; try simp only [go_sem, *])
  | refine Awp.block ?_
  | (apply Awp.cond; (case hc => (simp only [go_sem, *] <;> rfl)); all_goals (intro hg; (try simp only [Bool.not_true, Bool.not_false, reduceCtorEq] at hg)))
  | refine Awp.seq ?_)
   ·exact Lower.int (idxF_in hlt hg hj).symm
   ·refine ⟨i + 1, ⟨by omega, ltSucc hj hg⟩, by omega, ?_⟩
    (apply Ghost.mk [] []; (case hdead => rfl); (case hinj => rfl); (case hV => (simp only [go_sem, *]) <;> (repeat' (first | refine And.intro ?_ ?_ | exact View.int (by first | rfl | omega | (simp; done) | (rw [wrap_i64] <;> (try simp only [Int.natCast_add]) <;> omega) | (simp [*]; done)) | (refine View.fnF ?_; (simp [AV.flat]; done))))); (case hB => (simp only [go_sem, *]) <;> (repeat' (first | skip; done))))
  ·have hlt' : ¬ (i : Int) < l.length := by omega
   repeat' (first
  | (apply Awp.sreg; (case hn => (simp only [List.length_cons, List.length_nil, Nat.reduceAdd] <;> rfl)))
  | (refine st_nil ?_)
  | (apply st_a; (case hc => rfl); (case he => (simp only [go_sem, *] <;> rfl)); (case hu => (simp only [updL_nil, updL_cons] <;> rfl)); (case hp => first | trivial))
  | (refine Awp.ret ?_; try simp only [go_sem, *])
  | (refine Awp.exit ?_; try simp only [go_sem, *])
  | (apply Awp.cond; (case hc => (simp only [go_sem, *] <;> rfl)); all_goals (intro hg; (try simp only [Bool.not_true, Bool.not_false, reduceCtorEq] at hg); (try have hg' := hg); (try simp only [decide_eq_true_eq, decide_eq_false_iff_not, Bool.and_eq_true, Bool.or_eq_false_iff, bne_iff_ne, bne_eq_false_iff_eq, beq_iff_eq, beq_eq_false_iff_ne, Int.not_lt, Int.not_le, Int.ofNat_lt, Int.ofNat_le, Int.natCast_inj] at hg')))
  | refine Awp.seq ?_)
   exact Lower.int (idxF_out (Nat.le_of_not_lt hlt) hj).symm
theorem containsSt_ok (l : List ByteArray) (g : Nat) (cs : List AV) (p : ByteArray → Bool) (hl : l.length < 1000000) (hp : ∀ i, i < l.length → Pure Tryz.prog g (.v (.string (l.getD i ⟨#[]⟩)) :: [.rp cs]) (.v (.bool (p (l.getD i ⟨#[]⟩))))) :
  Pure Tryz.prog 45 [.sl (strs l), .fn g [.rp cs]] (.v (.bool (l.any p))) := by
 have h := indexSt_ok l g cs p hl hp
 rw [← idxF_any]
 refine fn_pure Tryz.F45 (Nat.le_of_ble_eq_true rfl) ?_; unfold Tryz.ac45 AR AM AO
 repeat' (first
  | (apply Awp.sreg; (case hn => (simp only [List.length_cons, List.length_nil, Nat.reduceAdd] <;> rfl)))
  | (refine st_nil ?_)
  | (apply st_a; (case hc => rfl); (case he => (simp only [go_sem, *] <;> rfl)); (case hu => (simp only [updL_nil, updL_cons] <;> rfl)); (case hp => first | trivial))
  | (apply st_c; (case hc => (simp only [go_sem, *] <;> rfl)); (case hl => (simp only [go_sem, *] <;> rfl)); (case hn => (simp only [go_sem, *] <;> rfl)); (case hp => first | exact h | (have hXz := h; simp only [go_sem, *] at hXz; exact hXz)))
  | (refine Awp.ret ?_; try simp only [go_sem, *]))
 all_goals repeat' (first | exact Lower.bool (by first | rfl | (simp only [true_and, Bool.true_and, Bool.false_and, Bool.and_true, Bool.and_false, Bool.true_or, Bool.false_or, reduceIte, Bool.false_eq_true, *]; done) | (simp only [true_and, reduceIte, Bool.false_eq_true, *] <;> rfl) | (simp [true_and]; done) | (simp_all [true_and]; done) | omega))
theorem indexWk_ok (l : List Wk) (g : Nat) (cs : List AV) (p : Wk → Bool) (hl : l.length < 1000000) (hp : ∀ i, i < l.length → Pure Tryz.prog g [(l.getD i zeroWk).av, .rp cs] (.v (.bool (p (l.getD i zeroWk))))) :
  Pure Tryz.prog 43 [.sl (wks l), .fn g [.rp cs]] (.v (.int .i64 (idxF p l))) := by
 refine fn_pure Tryz.F43 (Nat.le_of_ble_eq_true rfl) ?_; unfold Tryz.ac43 AR AM AO
 repeat' (first
  | (apply Awp.sreg; (case hn => (simp only [List.length_cons, List.length_nil, Nat.reduceAdd] <;> rfl)))
  | (refine st_nil ?_)
  | (apply st_a; (case hc => rfl); (case he => (simp only [go_sem, *] <;> rfl)); (case hu => (simp only [updL_nil, updL_cons] <;> rfl)); (case hp => first | trivial))
  | refine Awp.block ?_
  | refine Awp.seq ?_)
 refine Awp.loop (fun i : Nat => i ≤ l.length ∧ ∀ j, j < i → p (l.getD j zeroWk) = false) 40 (fun i => mkS [(0, .sl (wks l)), (1, .fn g [.rp cs]), (7, .v (.int .i64 l.length)), (8, .v (.int .i64 i))] []) (fun i => l.length - i) 0 (by simp) ?_ ?_
 ·(apply Ghost.mk [] []; (case hdead => rfl); (case hinj => rfl); (case hV => (simp only [go_sem, *]) <;> (repeat' (first | refine And.intro ?_ ?_ | exact View.int (by first | rfl | omega | (simp; done) | (rw [wrap_i64] <;> (try simp only [Int.natCast_add]) <;> omega) | (simp [*]; done)) | (refine View.fnF ?_; (simp [AV.flat]; done))))); (case hB => (simp only [go_sem, *]) <;> (repeat' (first | skip; done))))
 ·intro i ⟨hi, hj⟩
  by_cases hlt : i < l.length
  ·have hlt' : (i : Int) < l.length := by omega
   have hat := wks_at l i hlt
   have hz : ((l.getD i zeroWk).cells).length = 5 := rfl
   have hpi := hp i hlt
   clear hp
   repeat' (first
  | (apply Awp.sreg; (case hn => (simp only [List.length_cons, List.length_nil, Nat.reduceAdd] <;> rfl)))
  | (refine st_nil ?_)
  | (apply st_a; (case hc => rfl); (case he => (simp only [go_sem, *] <;> rfl)); (case hu => (simp only [updL_nil, updL_cons] <;> rfl)); (case hp => first | trivial | omega))
  | (apply st_c; (case hc => (simp only [go_sem, *] <;> rfl)); (case hl => (simp only [go_sem, *] <;> rfl)); (case hn => (simp only [go_sem, *] <;> rfl)); (case hp => first | exact hpi | (have hXz := hpi; simp only [go_sem, *] at hXz; exact hXz)))
  | (apply Awp.reg; (case hn => (simp only [List.length_cons, List.length_nil, Nat.reduceAdd] <;> rfl)))
  | (refine Awp.ret ?_; try simp only [go_sem, *])
  | (refine Awp.skip ?_; try simp only [go_sem, *])
  | refine Awp.block ?_
  | (apply Awp.cond; (case hc => (simp only [go_sem, *] <;> rfl)); all_goals (intro hg; (try simp only [Bool.not_true, Bool.not_false, reduceCtorEq] at hg)))
  | refine Awp.seq ?_)
   ·exact Lower.int (idxF_in hlt hg hj).symm
   ·refine ⟨i + 1, ⟨by omega, ltSucc hj hg⟩, by omega, ?_⟩
    (apply Ghost.mk [] []; (case hdead => rfl); (case hinj => rfl); (case hV => (simp only [go_sem, *]) <;> (repeat' (first | refine And.intro ?_ ?_ | exact View.int (by first | rfl | omega | (simp; done) | (rw [wrap_i64] <;> (try simp only [Int.natCast_add]) <;> omega) | (simp [*]; done)) | (refine View.fnF ?_; (simp [AV.flat]; done))))); (case hB => (simp only [go_sem, *]) <;> (repeat' (first | skip; done))))
  ·have hlt' : ¬ (i : Int) < l.length := by omega
   repeat' (first
  | (apply Awp.sreg; (case hn => (simp only [List.length_cons, List.length_nil, Nat.reduceAdd] <;> rfl)))
  | (refine st_nil ?_)
  | (apply st_a; (case hc => rfl); (case he => (simp only [go_sem, *] <;> rfl)); (case hu => (simp only [updL_nil, updL_cons] <;> rfl)); (case hp => first | trivial))
  | (refine Awp.ret ?_; try simp only [go_sem, *])
  | (refine Awp.exit ?_; try simp only [go_sem, *])
  | (apply Awp.cond; (case hc => (simp only [go_sem, *] <;> rfl)); all_goals (intro hg; (try simp only [Bool.not_true, Bool.not_false, reduceCtorEq] at hg); (try have hg' := hg); (try simp only [decide_eq_true_eq, decide_eq_false_iff_not, Bool.and_eq_true, Bool.or_eq_false_iff, bne_iff_ne, bne_eq_false_iff_eq, beq_iff_eq, beq_eq_false_iff_ne, Int.not_lt, Int.not_le, Int.ofNat_lt, Int.ofNat_le, Int.natCast_inj] at hg')))
  | refine Awp.seq ?_)
   exact Lower.int (idxF_out (Nat.le_of_not_lt hlt) hj).symm
theorem clos42 (W : List Wk) (s : ByteArray) : Pure Tryz.prog 42 [.v (.string s), .rp [.mpf (ids W) (avs W)]] (.v (.bool (hasK (ids W) s))) := by
 have hsm := @isSome_has (ids W) s
 cases h : hasK (ids W) s
 ·have hv := val_no zAv h
  unfold zAv at hv
  rw [h] at hsm
  clear h
  refine fn_pure Tryz.F42 (Nat.le_of_ble_eq_true rfl) ?_; unfold Tryz.ac42 AR AM AO
  repeat' (first
  | (apply Awp.sreg; (case hn => (simp only [List.length_cons, List.length_nil, Nat.reduceAdd] <;> rfl)))
  | (refine st_nil ?_)
  | (apply st_a; (case hc => rfl); (case he => (simp only [go_sem, *] <;> rfl)); (case hu => (simp only [updL_nil, updL_cons] <;> rfl)); (case hp => first | trivial))
  | (refine Awp.ret ?_; try simp only [go_sem, *]))
  all_goals repeat' (first | exact Lower.bool (by first | rfl | (simp only [true_and, Bool.true_and, Bool.false_and, Bool.and_true, Bool.and_false, Bool.true_or, Bool.false_or, reduceIte, Bool.false_eq_true, *]; done) | (simp only [true_and, reduceIte, Bool.false_eq_true, *] <;> rfl) | (simp [true_and]; done) | (simp_all [true_and]; done) | omega))
 ·obtain ⟨q2, hv⟩ := val_has zAv h
  have hz2 : q2.cells.length = 5 := rfl
  unfold zAv at hv
  rw [h] at hsm
  clear h
  refine fn_pure Tryz.F42 (Nat.le_of_ble_eq_true rfl) ?_; unfold Tryz.ac42 AR AM AO
  repeat' (first
  | (apply Awp.sreg; (case hn => (simp only [List.length_cons, List.length_nil, Nat.reduceAdd] <;> rfl)))
  | (refine st_nil ?_)
  | (apply st_a; (case hc => rfl); (case he => (simp only [go_sem, *] <;> rfl)); (case hu => (simp only [updL_nil, updL_cons] <;> rfl)); (case hp => first | trivial))
  | (refine Awp.ret ?_; try simp only [go_sem, *]))
  all_goals repeat' (first | exact Lower.bool (by first | rfl | (simp only [true_and, Bool.true_and, Bool.false_and, Bool.and_true, Bool.and_false, Bool.true_or, Bool.false_or, reduceIte, Bool.false_eq_true, *]; done) | (simp only [true_and, reduceIte, Bool.false_eq_true, *] <;> rfl) | (simp [true_and]; done) | (simp_all [true_and]; done) | omega))
def readyB (W : List Wk) (q : Wk) : Bool := hasK (ids W) q.id && !(q.af.any (hasK (ids W)))
theorem clos44 (W : List Wk) (q : Wk) (hq : q.af.length < 1000000) : Pure Tryz.prog 44 [q.av, .rp [.fn 42 [.rp [.mpf (ids W) (avs W)]]]] (.v (.bool (readyB W q))) := by
 have c0 := clos42 W q.id
 have c1 := containsSt_ok q.af 42 [.mpf (ids W) (avs W)] (hasK (ids W)) hq (fun i hi => clos42 W _)
 unfold readyB
 cases h : hasK (ids W) q.id
 ·rw [h] at c0
  refine fn_pure Tryz.F44 (Nat.le_of_ble_eq_true rfl) ?_; unfold Tryz.ac44 AR AM AO
  repeat' (first
  | (apply Awp.sreg; (case hn => (simp only [List.length_cons, List.length_nil, Nat.reduceAdd] <;> rfl)))
  | (refine st_nil ?_)
  | (apply st_a; (case hc => rfl); (case he => (simp only [go_sem, *] <;> rfl)); (case hu => (simp only [updL_nil, updL_cons] <;> rfl)); (case hp => first | trivial))
  | (apply st_m; (case hc => rfl); (case hg => (simp only [go_sem, *] <;> rfl)); (case he => (intro hQz; (try simp only [wantB_t, wantB_f, Bool.and_eq_true, Bool.not_eq_true', Bool.not_true, Bool.not_false, and_true, true_and] at hQz); simp only [go_sem, *] <;> rfl)); (case hp => (intro hQz; (try simp only [wantB_t, wantB_f, Bool.and_eq_true, Bool.not_eq_true', Bool.or_eq_false_iff, decide_eq_true_eq, decide_eq_false_iff_not, beq_iff_eq, beq_eq_false_iff_ne, bne_iff_ne, bne_eq_false_iff_eq, Int.not_lt, Int.not_le, Int.ofNat_lt, Int.ofNat_le] at hQz); first | trivial)))
  | (apply st_c; (case hc => (simp only [go_sem, *] <;> rfl)); (case hl => (simp only [go_sem, *] <;> rfl)); (case hn => (simp only [go_sem, *] <;> rfl)); (case hp => first | exact c0 | (have hXz := c0; simp only [go_sem, *] at hXz; exact hXz)))
  | (apply st_g; (case hv => (simp only [go_sem, *] <;> rfl)); all_goals (intro hg; (try simp only [Bool.not_true, Bool.not_false, reduceCtorEq] at hg); (try have hg' := hg); (try simp only [decide_eq_true_eq, decide_eq_false_iff_not, Bool.and_eq_true, Bool.or_eq_false_iff, bne_iff_ne, bne_eq_false_iff_eq, beq_iff_eq, beq_eq_false_iff_ne, Int.not_lt, Int.not_le, Int.ofNat_lt, Int.ofNat_le, Int.natCast_inj] at hg')))
  | (refine Awp.ret ?_; try simp only [go_sem, *]))
  all_goals repeat' (first | exact Lower.bool (by first | rfl | (simp only [true_and, Bool.true_and, Bool.false_and, Bool.and_true, Bool.and_false, Bool.true_or, Bool.false_or, reduceIte, Bool.false_eq_true, *]; done) | (simp only [true_and, reduceIte, Bool.false_eq_true, *] <;> rfl) | (simp [true_and]; done) | (simp_all [true_and]; done) | omega))
 ·rw [h] at c0
  refine fn_pure Tryz.F44 (Nat.le_of_ble_eq_true rfl) ?_; unfold Tryz.ac44 AR AM AO
  repeat' (first
  | (apply Awp.sreg; (case hn => (simp only [List.length_cons, List.length_nil, Nat.reduceAdd] <;> rfl)))
  | (refine st_nil ?_)
  | (apply st_a; (case hc => rfl); (case he => (simp only [go_sem, *] <;> rfl)); (case hu => (simp only [updL_nil, updL_cons] <;> rfl)); (case hp => first | trivial))
  | (apply st_m; (case hc => rfl); (case hg => (simp only [go_sem, *] <;> rfl)); (case he => (intro hQz; (try simp only [wantB_t, wantB_f, Bool.and_eq_true, Bool.not_eq_true', Bool.not_true, Bool.not_false, and_true, true_and] at hQz); simp only [go_sem, *] <;> rfl)); (case hp => (intro hQz; (try simp only [wantB_t, wantB_f, Bool.and_eq_true, Bool.not_eq_true', Bool.or_eq_false_iff, decide_eq_true_eq, decide_eq_false_iff_not, beq_iff_eq, beq_eq_false_iff_ne, bne_iff_ne, bne_eq_false_iff_eq, Int.not_lt, Int.not_le, Int.ofNat_lt, Int.ofNat_le] at hQz); first | trivial)))
  | (apply st_c; (case hc => (simp only [go_sem, *] <;> rfl)); (case hl => (simp only [go_sem, *] <;> rfl)); (case hn => (simp only [go_sem, *] <;> rfl)); (case hp => first | exact c0 | (have hXz := c0; simp only [go_sem, *] at hXz; exact hXz)))
  | (apply st_mc; (case hop => rfl); (case hg => (simp only [go_sem, *] <;> rfl)); (case hc => (intro hQz; (try simp only [wantB_t, wantB_f, Bool.and_eq_true, Bool.not_eq_true', Bool.not_true, Bool.not_false, and_true, true_and] at hQz); simp only [go_sem, *] <;> rfl)); (case hl => (intro hQz; (try simp only [wantB_t, wantB_f, Bool.and_eq_true, Bool.not_eq_true', Bool.not_true, Bool.not_false, and_true, true_and] at hQz); simp only [go_sem, *] <;> rfl)); (case hn => (intro hQz; (try simp only [wantB_t, wantB_f, Bool.and_eq_true, Bool.not_eq_true', Bool.not_true, Bool.not_false, and_true, true_and] at hQz); simp only [go_sem, *] <;> rfl)); (case hp => intro hQz; first | exact c1 | (have hXz := c1; simp only [go_sem, *] at hXz; exact hXz)))
  | (refine Awp.ret ?_; try simp only [go_sem, *]))
  all_goals repeat' (first | exact Lower.bool (by first | rfl | (simp only [true_and, Bool.true_and, Bool.false_and, Bool.and_true, Bool.and_false, Bool.true_or, Bool.false_or, reduceIte, Bool.false_eq_true, *]; done) | (simp only [true_and, reduceIte, Bool.false_eq_true, *] <;> rfl) | (simp [true_and]; done) | (simp_all [true_and]; done) | omega))
def delW (W : List Wk) (s : ByteArray) : List Wk := delK W (mapIx (ids W) s)
theorem delW_ids (W : List Wk) (s : ByteArray) : delK (ids W) (mapIx (ids W) s) = ids (delW W s) := by
 unfold delW
 cases mapIx (ids W) s with
 | none => rfl
 | some i =>
  simp only [delK, ids]
  apply List.ext_getElem?
  intro j
  simp only [List.getElem?_eraseIdx, List.getElem?_map]
  split <;> rfl
theorem delW_avs (W : List Wk) (s : ByteArray) : delK (avs W) (mapIx (ids W) s) = avs (delW W s) := by
 unfold delW
 cases mapIx (ids W) s with
 | none => rfl
 | some i =>
  simp only [delK, avs]
  apply List.ext_getElem?
  intro j
  simp only [List.getElem?_eraseIdx, List.getElem?_map]
  split <;> rfl
theorem delW_len {W : List Wk} {s : ByteArray} (h : hasK (ids W) s = true) : (delW W s).length + 1 = W.length := by
 obtain ⟨i, hi, hl⟩ := mapIx_has h
 rw [ids_len] at hl
 unfold delW
 rw [hi]
 simp only [delK]
 rw [List.length_eraseIdx, if_pos hl]
 omega
def ordG (S : List Wk) : Nat → List Wk → List Wk → List Wk × Int
 | 0, _, out => (out, 0)
 | n + 1, W, out => if idxF (readyB W) S < 0 then ([], 20) else ordG S n (delW W (S.getD (idxF (readyB W) S).toNat zeroWk).id) (out ++ [S.getD (idxF (readyB W) S).toNat zeroWk])
def ordE (l : List Wk) : List Wk × Int := if jobsE l ≠ 0 then ([], jobsE l) else ordG (sortW l) l.length l []
theorem idxF_cases {α : Type} (p : α → Bool) (l : List α) (d : α) : (idxF p l < 0 ∧ idxF p l = -1) ∨ ∃ i : Nat, idxF p l = i ∧ i < l.length ∧ p (l.getD i d) = true := by
 unfold idxF
 split
 ·rename_i h
  refine .inr ⟨_, rfl, h, ?_⟩
  have := List.findIdx_getElem (p := p) (w := h)
  simpa [List.getD_eq_getElem?_getD, h] using this
 ·exact .inl ⟨by omega, rfl⟩
theorem ids_nodup {l : List Wk} (h : jobsE l = 0) : (l.map (·.id)).Nodup := by
 obtain ⟨_, hb, _⟩ := jobsE_inv h
 rw [List.Nodup, List.pairwise_iff_getElem]
 intro i j hi hj hij
 have hj' : j < l.length := by simpa using hj
 obtain ⟨_, h2, _⟩ := badW_inv (hb j hj')
 unfold hasK at h2
 rw [List.any_eq_false] at h2
 intro e
 refine h2 (l.map (·.id))[i] ?_ ?_
 ·unfold ids
  rw [List.map_take]
  exact List.mem_iff_getElem.2 ⟨i, by simp; omega, by simp⟩
 ·rw [e]; simp [List.getD_eq_getElem?_getD, hj']
theorem bviewFn1 {hd : Nat → Option Blk} {ρ : Nat → Nat} {nx f b n : Nat} (hb : ρ n = b) (hn : n < nx) : BView hd ρ nx (.box [.fn f [.bp b 0]]) (.box [.fn f [.bp n 0]]) :=
 .box rfl fun j hj => by
  match j, hj with
  | 0, _ => exact View.fn1 hb hn
def orS (l S : List Wk) (q : List Wk × List Wk) : AState := mkS [(6, .sl (wks S)), (4, .bp 0 0), (7, .bp 2 0), (8, .own 3)] [(0, .box [.mapv 1]), (1, .map (ids q.1) (avs q.1)), (2, .box [.fn 42 [.bp 0 0]]), (3, .row (wks q.2) 5 53)]
theorem ordered_ok (l : List Wk) (hl : l.length < 1000000) (ha : ∀ q ∈ l, q.af.length < 1000000) : Pure Tryz.prog 24 [.sl (wks l)] (.tup [.sl (wks (ordE l).1), .v (.int .i64 (ordE l).2)]) := by
 by_cases hE : jobsE l = 0
 ·have c0 := jobs_ok l ha hE
  have c1 := values_ok l
  have c2 := (sorted_ok l hl (ids_nodup hE)).pure
  have hsa : ∀ i, i < (sortW l).length → ((sortW l).getD i zeroWk).af.length < 1000000 := fun i hi => ha _ ((sortW_perm l).mem_iff.1 (getD_mem _ hi))
  have hsl := sortW_len l
  have hR : ordE l = ordG (sortW l) l.length l [] := by unfold ordE; rw [if_neg (by simp [hE])]
  have h128 := (jobsE_inv hE).1
  rw [hR]
  generalize hRR : ordG (sortW l) l.length l [] = R
  generalize sortW l = S at *
  clear hR hE ha
  refine fn_pure Tryz.F24 (Nat.le_of_ble_eq_true rfl) ?_; unfold Tryz.ac24 AR AM AO
  repeat' (first
  | (apply Awp.sreg; (case hn => (simp only [List.length_cons, List.length_nil, Nat.reduceAdd] <;> rfl)))
  | (refine st_nil ?_)
  | (apply st_a; (case hc => rfl); (case he => (simp only [go_sem, *] <;> rfl)); (case hu => (simp only [updL_nil, updL_cons] <;> rfl)); (case hp => first | trivial))
  | (apply st_ctm; (case hc => (simp only [go_sem, *] <;> rfl)); (case hl => (simp only [go_sem, *] <;> rfl)); (case hn => (simp only [go_sem, *] <;> rfl)); (case hp => first | exact c0 | (have hXz := c0; simp only [go_sem, *] at hXz; exact hXz)); (case hd => first | exact .inl rfl | (refine .inr ?_; (repeat' (first | exact Dry.v _ | exact Dry.any | exact Dry.nils | exact Dry.slE | refine Dry.agg ?_ | refine Dry.tup ?_ | (refine List.forall_mem_cons.2 (And.intro ?_ ?_)) | (intro cQ hQ; cases hQ; done))))); (case hm => first | decide | (simp; done)))
  | (apply st_c; (case hc => (simp only [go_sem, *] <;> rfl)); (case hl => (simp only [go_sem, *] <;> rfl)); (case hn => (simp only [go_sem, *] <;> rfl)); (case hp => first | exact c1 | (have hXz := c1; simp only [go_sem, *] at hXz; exact hXz)))
  | (apply st_c; (case hc => (simp only [go_sem, *] <;> rfl)); (case hl => (simp only [go_sem, *] <;> rfl)); (case hn => (simp only [go_sem, *] <;> rfl)); (case hp => first | exact c2 | (have hXz := c2; simp only [go_sem, *] at hXz; exact hXz)))
  | (refine Awp.skip ?_; try simp only [go_sem, *])
  | refine Awp.block ?_
  | (apply Awp.cond; (case hc => (simp only [go_sem, *] <;> rfl)); all_goals (intro hg; (try simp only [Bool.not_true, Bool.not_false, reduceCtorEq] at hg)))
  | refine Awp.seq ?_)
  refine Awp.loop (fun q : List Wk × List Wk => q.1.length + q.2.length = l.length ∧ ordG S q.1.length q.1 q.2 = R) 300 (fun q => orS l S q) (fun q => q.1.length) (l, []) ⟨by simp, hRR⟩ ?_ ?_
  ·clear hRR
   unfold orS
   refine Ghost.trans (Ghost.name 8 5 53 rfl (by decide)) ?_
   (apply Ghost.mk [(0, 7), (1, 3), (2, 17), (3, 20)] []; (case hdead => rfl); (case hinj => rfl); (case hV => (simp only [go_sem, *]) <;> (repeat' (first | refine And.intro ?_ ?_ | exact .bp rfl (by decide) | exact .own rfl (by decide)))); (case hB => (simp only [go_sem, *]) <;> (repeat' (first | refine And.intro ?_ ?_ | exact ⟨_, rfl, bviewFn1 rfl (by decide)⟩ | exact ⟨_, rfl, .rowE (by first | rfl | omega | (simp; done) | (rw [wrap_i64] <;> (try simp only [Int.natCast_add]) <;> omega) | (simp [*]; done))⟩ | exact ⟨_, rfl, BView.map1 rfl (by decide)⟩ | exact ⟨_, rfl, BView.mapE (by first | rfl | omega | (simp; done) | (rw [wrap_i64] <;> (try simp only [Int.natCast_add]) <;> omega) | (simp [*]; done)) (by first | rfl | omega | (simp; done) | (rw [wrap_i64] <;> (try simp only [Int.natCast_add]) <;> omega) | (simp [*]; done))⟩))))
  ·intro ⟨W, out⟩ ⟨hlen, hR⟩
   clear hRR c0 c1 c2
   simp only at hlen hR ⊢
   by_cases h0 : W.length = 0
   ·have hR2 : R = (out, 0) := by rw [← hR, h0]; rfl
    have h0' : ¬ (0 : Int) < W.length := by omega
    rw [hR2]
    clear hR hR2 hsa hlen h0
    unfold orS
    repeat' (first
  | (apply Awp.sreg; (case hn => (simp only [List.length_cons, List.length_nil, Nat.reduceAdd] <;> rfl)))
  | (refine st_nil ?_)
  | (apply st_a; (case hc => rfl); (case he => (simp only [go_sem, *] <;> rfl)); (case hu => (simp only [updL_nil, updL_cons] <;> rfl)); (case hp => first | trivial))
  | (refine Awp.ret ?_; try simp only [go_sem, *])
  | (refine Awp.exit ?_; try simp only [go_sem, *])
  | (apply Awp.cond; (case hc => (simp only [go_sem, *] <;> rfl)); all_goals (intro hg; (try simp only [Bool.not_true, Bool.not_false, reduceCtorEq] at hg)))
  | refine Awp.seq ?_)
    all_goals repeat' (first | exact Lower.int (by first | rfl | (simp only [true_and, Bool.true_and, Bool.false_and, Bool.and_true, Bool.and_false, Bool.true_or, Bool.false_or, reduceIte, Bool.false_eq_true, *]; done) | (simp only [true_and, reduceIte, Bool.false_eq_true, *] <;> rfl) | (simp [true_and]; done) | (simp_all [true_and]; done) | omega) | exact Lower.ownE (by simp only [go_sem, *] <;> rfl) (by first | rfl | (simp only [true_and, Bool.true_and, Bool.false_and, Bool.and_true, Bool.and_false, Bool.true_or, Bool.false_or, reduceIte, Bool.false_eq_true, *]; done) | (simp only [true_and, reduceIte, Bool.false_eq_true, *] <;> rfl) | (simp [true_and]; done) | (simp_all [true_and]; done) | omega) | refine Lower.tupF ?_ | refine All2.cons ?_ ?_ | exact All2.nil)
   ·have h0' : (0 : Int) < W.length := by omega
    have c3 := indexWk_ok S 44 [.fn 42 [.rp [.mpf (ids W) (avs W)]]] (readyB W) (by omega) (fun i hi => clos44 W _ (hsa i hi))
    obtain ⟨n, hn⟩ : ∃ n, W.length = n + 1 := ⟨W.length - 1, by omega⟩
    have hstep : ordG S W.length W out = if idxF (readyB W) S < 0 then ([], 20) else ordG S n (delW W (S.getD (idxF (readyB W) S).toNat zeroWk).id) (out ++ [S.getD (idxF (readyB W) S).toNat zeroWk]) := by rw [hn]; rfl
    rw [hR] at hstep
    rcases idxF_cases (readyB W) S zeroWk with ⟨hi, hi1⟩ | ⟨i, hi, hlt, hrb⟩
    ·rw [if_pos hi] at hstep
     rw [hi1] at c3
     rw [hstep]
     clear hR hstep hsa hi hi1 hn
     unfold orS
     repeat' (first
  | (apply Awp.sreg; (case hn => (simp only [List.length_cons, List.length_nil, Nat.reduceAdd] <;> rfl)))
  | (refine st_nil ?_)
  | (apply st_a; (case hc => rfl); (case he => (simp only [go_sem, *] <;> rfl)); (case hu => (simp only [updL_nil, updL_cons] <;> rfl)); (case hp => first | trivial))
  | (apply st_cd; (case hc => (simp only [go_sem, *] <;> rfl)); (case hl => (simp only [go_sem, *] <;> rfl)); (case hn => (simp only [go_sem, *] <;> rfl)); (case hp => first | exact c3 | (have hXz := c3; simp only [go_sem, *] at hXz; exact hXz)); (case hd => first | exact .v _ | exact .any | exact .nils | (repeat' (first | exact Dry.v _ | exact Dry.any | exact Dry.nils | exact Dry.slE | refine Dry.agg ?_ | refine Dry.tup ?_ | (refine List.forall_mem_cons.2 (And.intro ?_ ?_)) | (intro cQ hQ; cases hQ; done)))); (case hm => first | decide | (simp; done)))
  | (refine Awp.ret ?_; try simp only [go_sem, *])
  | (refine Awp.skip ?_; try simp only [go_sem, *])
  | refine Awp.block ?_
  | (apply Awp.cond; (case hc => (simp only [go_sem, *] <;> rfl)); all_goals (intro hg; (try simp only [Bool.not_true, Bool.not_false, reduceCtorEq] at hg)))
  | refine Awp.seq ?_)
     all_goals repeat' (first | exact Lower.int (by first | rfl | (simp only [true_and, Bool.true_and, Bool.false_and, Bool.and_true, Bool.and_false, Bool.true_or, Bool.false_or, reduceIte, Bool.false_eq_true, *]; done) | (simp only [true_and, reduceIte, Bool.false_eq_true, *] <;> rfl) | (simp [true_and]; done) | (simp_all [true_and]; done) | omega) | exact Lower.nilE (by first | rfl | (simp only [true_and, Bool.true_and, Bool.false_and, Bool.and_true, Bool.and_false, Bool.true_or, Bool.false_or, reduceIte, Bool.false_eq_true, *]; done) | (simp only [true_and, reduceIte, Bool.false_eq_true, *] <;> rfl) | (simp [true_and]; done) | (simp_all [true_and]; done) | omega) | refine Lower.tupF ?_ | refine All2.cons ?_ ?_ | exact All2.nil)
    ·rw [hi, if_neg (by omega), Int.toNat_natCast] at hstep
     rw [hi] at c3
     have hat := wks_at S i hlt
     have hz : ((S.getD i zeroWk).cells).length = 5 := rfl
     have hil : (i : Int) < S.length := by omega
     have hi0 : ¬ (i : Int) < 0 := by omega
     have hdl := delW_len (W := W) (s := (S.getD i zeroWk).id) (by unfold readyB at hrb; rw [Bool.and_eq_true] at hrb; exact hrb.1)
     have hdi := delW_ids W (S.getD i zeroWk).id
     have hda := delW_avs W (S.getD i zeroWk).id
     have hsn := wks_snoc out (S.getD i zeroWk)
     simp only [Wk.cells] at hsn
     have hnx : Hid (ordG S (delW W (S.getD i zeroWk).id).length (delW W (S.getD i zeroWk).id) (out ++ [S.getD i zeroWk]) = R) := by
      show _ = R
      rw [hstep]
      congr 1
      omega
     have hln : (delW W (S.getD i zeroWk).id).length + (out ++ [S.getD i zeroWk]).length = l.length := by rw [List.length_append, List.length_singleton]; omega
     have ho : out.length < 1000000 := by omega
     clear hR hstep hsa hi hrb hn
     unfold orS
     repeat' (first
  | (apply Awp.sreg; (case hn => (simp only [List.length_cons, List.length_nil, Nat.reduceAdd] <;> rfl)))
  | (apply Awp.sdraw; (case hn => (simp only [List.length_cons, List.length_nil, Nat.reduceAdd] <;> rfl)))
  | (refine st_nil ?_)
  | (apply st_a; (case hc => rfl); (case he => (simp only [go_sem, *] <;> rfl)); (case hu => (simp only [updL_nil, updL_cons] <;> rfl)); (case hp => first | trivial | omega | (simp; done) | (simp; omega)))
  | (apply st_cd; (case hc => (simp only [go_sem, *] <;> rfl)); (case hl => (simp only [go_sem, *] <;> rfl)); (case hn => (simp only [go_sem, *] <;> rfl)); (case hp => first | exact c3 | (have hXz := c3; simp only [go_sem, *] at hXz; exact hXz)); (case hd => first | exact .v _ | exact .any | exact .nils | (repeat' (first | exact Dry.v _ | exact Dry.any | exact Dry.nils | exact Dry.slE | refine Dry.agg ?_ | refine Dry.tup ?_ | (refine List.forall_mem_cons.2 (And.intro ?_ ?_)) | (intro cQ hQ; cases hQ; done)))); (case hm => first | decide | (simp; done)))
  | (apply Awp.reg; (case hn => (simp only [List.length_cons, List.length_nil, Nat.reduceAdd] <;> rfl)))
  | (refine Awp.skip ?_; try simp only [go_sem, *])
  | refine Awp.block ?_
  | (apply Awp.cond; (case hc => (simp only [go_sem, *] <;> rfl)); all_goals (intro hg; (try simp only [Bool.not_true, Bool.not_false, reduceCtorEq] at hg)))
  | refine Awp.seq ?_
  | (apply sl_a; (case hc => rfl); (case he => (simp only [go_sem, *] <;> rfl)); (case hu => (simp only [updL_nil, updL_cons] <;> rfl)); (case hl => (simp only [List.map_cons, List.map_nil] <;> rfl)); (case hp => first | trivial | omega))
  | (refine sl_nil (And.intro (by first | exact drawOk_of (by decide +kernel) | (simp only [List.map_cons, List.map_nil]; exact drawOk_of (by decide +kernel)) | decide) ?_)))
     refine ⟨(delW W (S.getD i zeroWk).id, out ++ [S.getD i zeroWk]), ⟨hln, hnx⟩, by simp only; omega, ?_⟩
     clear hnx hln hdl
     simp only
     (apply Ghost.mk [(3, 322)] []; (case hdead => rfl); (case hinj => rfl); (case hV => (simp only [go_sem, *]) <;> (repeat' (first | refine And.intro ?_ ?_ | exact .bp rfl (by decide) | exact .own rfl (by decide)))); (case hB => (simp only [go_sem, *]) <;> (repeat' (first | refine And.intro ?_ ?_ | exact ⟨_, rfl, bviewFn1 rfl (by decide)⟩ | exact ⟨_, rfl, .rowE (by first | rfl | omega | (simp; done) | (rw [wrap_i64] <;> (try simp only [Int.natCast_add]) <;> omega) | (simp [*]; done))⟩ | exact ⟨_, rfl, BView.map1 rfl (by decide)⟩ | exact ⟨_, rfl, BView.mapE (by first | rfl | omega | (simp; done) | (rw [wrap_i64] <;> (try simp only [Int.natCast_add]) <;> omega) | (simp [*]; done)) (by first | rfl | omega | (simp; done) | (rw [wrap_i64] <;> (try simp only [Int.natCast_add]) <;> omega) | (simp [*]; done))⟩))))
 ·have c0 := jobs_bad l hl ha hE
  have hR : ordE l = ([], jobsE l) := by unfold ordE; rw [if_pos hE]
  rw [hR]
  clear hR
  generalize jobsE l = e at *
  have he : (e != 0) = true := by simpa using hE
  refine fn_pure Tryz.F24 (Nat.le_of_ble_eq_true rfl) ?_; unfold Tryz.ac24 AR AM AO
  repeat' (first
  | (apply Awp.sreg; (case hn => (simp only [List.length_cons, List.length_nil, Nat.reduceAdd] <;> rfl)))
  | (refine st_nil ?_)
  | (apply st_a; (case hc => rfl); (case he => (simp only [go_sem, *] <;> rfl)); (case hu => (simp only [updL_nil, updL_cons] <;> rfl)); (case hp => first | trivial))
  | (apply st_c; (case hc => (simp only [go_sem, *] <;> rfl)); (case hl => (simp only [go_sem, *] <;> rfl)); (case hn => (simp only [go_sem, *] <;> rfl)); (case hp => first | exact c0 | (have hXz := c0; simp only [go_sem, *] at hXz; exact hXz)))
  | (refine Awp.ret ?_; try simp only [go_sem, *])
  | (apply Awp.cond; (case hc => (simp only [go_sem, *] <;> rfl)); all_goals (intro hg; (try simp only [Bool.not_true, Bool.not_false, reduceCtorEq] at hg); (try have hg' := hg); (try simp only [decide_eq_true_eq, decide_eq_false_iff_not, Bool.and_eq_true, Bool.or_eq_false_iff, bne_iff_ne, bne_eq_false_iff_eq, beq_iff_eq, beq_eq_false_iff_ne, Int.not_lt, Int.not_le, Int.ofNat_lt, Int.ofNat_le, Int.natCast_inj] at hg')))
  | refine Awp.seq ?_)
  all_goals repeat' (first | exact Lower.int (by first | rfl | (simp only [true_and, Bool.true_and, Bool.false_and, Bool.and_true, Bool.and_false, Bool.true_or, Bool.false_or, reduceIte, Bool.false_eq_true, *]; done) | (simp only [true_and, reduceIte, Bool.false_eq_true, *] <;> rfl) | (simp [true_and]; done) | (simp_all [true_and]; done) | omega) | exact Lower.nilE (by first | rfl | (simp only [true_and, Bool.true_and, Bool.false_and, Bool.and_true, Bool.and_false, Bool.true_or, Bool.false_or, reduceIte, Bool.false_eq_true, *]; done) | (simp only [true_and, reduceIte, Bool.false_eq_true, *] <;> rfl) | (simp [true_and]; done) | (simp_all [true_and]; done) | omega) | refine Lower.tupF ?_ | refine All2.cons ?_ ?_ | exact All2.nil)
theorem ordG_len (S : List Wk) : ∀ (n : Nat) (W out : List Wk), (ordG S n W out).1.length ≤ out.length + n
 | 0, _, out => Nat.le_refl _
 | n + 1, W, out => by
  unfold ordG
  split
  ·simp
  ·refine Nat.le_trans (ordG_len S n _ _) ?_
   rw [List.length_append, List.length_singleton]; omega
theorem ordG_err (S : List Wk) : ∀ (n : Nat) (W out : List Wk), (ordG S n W out).2 ≠ 0 → (ordG S n W out).1 = []
 | 0, _, out => fun h => absurd rfl h
 | n + 1, W, out => by
  unfold ordG
  split
  ·exact fun _ => rfl
  ·exact ordG_err S n _ _
theorem ordE_len (l : List Wk) : (ordE l).1.length ≤ l.length := by
 unfold ordE
 split
 ·simp
 ·have := ordG_len (sortW l) l.length l []
  simpa using this
theorem ordE_err (l : List Wk) (h : (ordE l).2 ≠ 0) : (ordE l).1 = [] := by
 unfold ordE at h ⊢
 split
 ·rfl
 ·rename_i h1
  rw [if_neg h1] at h
  exact ordG_err _ _ _ _ h
theorem ids_snoc (l : List Wk) (q : Wk) : strs (ids l) ++ [[.v (.string q.id)]] = strs (ids (l ++ [q])) := by simp [strs, ids]
theorem order_ok (l : List Wk) (hl : l.length < 1000000) (ha : ∀ q ∈ l, q.af.length < 1000000) : Pure Tryz.prog 11 [.sl (wks l)] (.tup [.sl (strs (ids (ordE l).1)), .v (.int .i64 (ordE l).2)]) := by
 have c0 := ordered_ok l hl ha
 have h1 := ordE_len l
 have h2 := ordE_err l
 generalize ordE l = R at *
 obtain ⟨S, e⟩ := R
 simp only at h1 h2 c0 ⊢
 clear ha
 by_cases he : e = 0
 ·subst he
  clear h2
  refine fn_pure Tryz.F11 (Nat.le_of_ble_eq_true rfl) ?_; unfold Tryz.ac11 AR AM AO
  repeat' (first
  | (apply Awp.sreg; (case hn => (simp only [List.length_cons, List.length_nil, Nat.reduceAdd] <;> rfl)))
  | (refine st_nil ?_)
  | (apply st_a; (case hc => rfl); (case he => (simp only [go_sem, *] <;> rfl)); (case hu => (simp only [updL_nil, updL_cons] <;> rfl)); (case hp => first | trivial))
  | (apply st_c; (case hc => (simp only [go_sem, *] <;> rfl)); (case hl => (simp only [go_sem, *] <;> rfl)); (case hn => (simp only [go_sem, *] <;> rfl)); (case hp => first | exact c0 | (have hXz := c0; simp only [go_sem, *] at hXz; exact hXz)))
  | (refine Awp.skip ?_; try simp only [go_sem, *])
  | refine Awp.block ?_
  | (apply Awp.cond; (case hc => (simp only [go_sem, *] <;> rfl)); all_goals (intro hg; (try simp only [Bool.not_true, Bool.not_false, reduceCtorEq] at hg)))
  | refine Awp.seq ?_)
  refine Awp.loop (fun i : Nat => i ≤ S.length) 100 (fun i => mkS [(17, .sl (wks S)), (18, .v (.int .i64 S.length)), (19, .v (.int .i64 i)), (6, .own 0)] [(0, .row (strs (ids (S.take i))) 1 9)]) (fun i => S.length - i) 0 (Nat.zero_le _) ?_ ?_
  ·refine Ghost.trans (Ghost.name 6 1 9 rfl (by decide)) ?_
   (apply Ghost.mk [(0, 15)] []; (case hdead => rfl); (case hinj => rfl); (case hV => (simp only [go_sem, *]) <;> (repeat' (first | refine And.intro ?_ ?_ | exact View.int (by first | rfl | omega | (simp; done) | (rw [wrap_i64] <;> (try simp only [Int.natCast_add]) <;> omega) | (simp [*]; done)) | exact .own rfl (by decide)))); (case hB => (simp only [go_sem, *]) <;> (repeat' (first | exact ⟨_, rfl, .rowE (by first | rfl | omega | (simp; done) | (rw [wrap_i64] <;> (try simp only [Int.natCast_add]) <;> omega) | (simp [*]; done))⟩))))
  ·intro i hi
   by_cases hlt : i < S.length
   ·have hlt' : (i : Int) < S.length := by omega
    have hat := wks_at S i hlt
    have hz : ((S.getD i zeroWk).cells).length = 5 := rfl
    have hsn := ids_snoc (S.take i) (S.getD i zeroWk)
    rw [← ids_take1 hlt] at hsn
    have htl : (S.take i).length = i := List.length_take_of_le hi
    have hil : (ids (S.take i)).length < 1000000 := by rw [ids_len]; omega
    clear c0
    repeat' (first
  | (apply Awp.sreg; (case hn => (simp only [List.length_cons, List.length_nil, Nat.reduceAdd] <;> rfl)))
  | (refine st_nil ?_)
  | (apply st_a; (case hc => rfl); (case he => (simp only [go_sem, *] <;> rfl)); (case hu => (simp only [updL_nil, updL_cons] <;> rfl)); (case hp => first | trivial | omega | (simp; done) | (simp; omega)))
  | (apply Awp.reg; (case hn => (simp only [List.length_cons, List.length_nil, Nat.reduceAdd] <;> rfl)))
  | (refine Awp.skip ?_; try simp only [go_sem, *])
  | refine Awp.block ?_
  | (apply Awp.cond; (case hc => (simp only [go_sem, *] <;> rfl)); all_goals (intro hg; (try simp only [Bool.not_true, Bool.not_false, reduceCtorEq] at hg)))
  | refine Awp.seq ?_)
    refine ⟨i + 1, by omega, by omega, ?_⟩
    (apply Ghost.mk [(0, 109)] []; (case hdead => rfl); (case hinj => rfl); (case hV => (simp only [go_sem, *]) <;> (repeat' (first | refine And.intro ?_ ?_ | exact View.int (by first | rfl | omega | (simp; done) | (rw [wrap_i64] <;> (try simp only [Int.natCast_add]) <;> omega) | (simp [*]; done)) | exact .own rfl (by decide)))); (case hB => (simp only [go_sem, *]) <;> (repeat' (first | exact ⟨_, rfl, .rowE (by first | rfl | omega | (simp; done) | (rw [wrap_i64] <;> (try simp only [Int.natCast_add]) <;> omega) | (simp [*]; done))⟩))))
   ·have hlt' : ¬ (i : Int) < S.length := by omega
    have e1 : S.take i = S := List.take_of_length_le (by omega)
    rw [e1]
    clear c0 e1
    repeat' (first
  | (apply Awp.sreg; (case hn => (simp only [List.length_cons, List.length_nil, Nat.reduceAdd] <;> rfl)))
  | (refine st_nil ?_)
  | (apply st_a; (case hc => rfl); (case he => (simp only [go_sem, *] <;> rfl)); (case hu => (simp only [updL_nil, updL_cons] <;> rfl)); (case hp => first | trivial))
  | (refine Awp.ret ?_; try simp only [go_sem, *])
  | (refine Awp.exit ?_; try simp only [go_sem, *])
  | (apply Awp.cond; (case hc => (simp only [go_sem, *] <;> rfl)); all_goals (intro hg; (try simp only [Bool.not_true, Bool.not_false, reduceCtorEq] at hg)))
  | refine Awp.seq ?_)
    all_goals repeat' (first | exact Lower.int (by first | rfl | (simp only [true_and, Bool.true_and, Bool.false_and, Bool.and_true, Bool.and_false, Bool.true_or, Bool.false_or, reduceIte, Bool.false_eq_true, *]; done) | (simp only [true_and, reduceIte, Bool.false_eq_true, *] <;> rfl) | (simp [true_and]; done) | (simp_all [true_and]; done) | omega) | exact Lower.ownE (by simp only [go_sem, *] <;> rfl) (by first | rfl | (simp only [true_and, Bool.true_and, Bool.false_and, Bool.and_true, Bool.and_false, Bool.true_or, Bool.false_or, reduceIte, Bool.false_eq_true, *]; done) | (simp only [true_and, reduceIte, Bool.false_eq_true, *] <;> rfl) | (simp [true_and]; done) | (simp_all [true_and]; done) | omega) | refine Lower.tupF ?_ | refine All2.cons ?_ ?_ | exact All2.nil)
 ·have hS : S = [] := h2 he
  subst hS
  have he' : (e != 0) = true := by simpa using he
  clear h2
  refine fn_pure Tryz.F11 (Nat.le_of_ble_eq_true rfl) ?_; unfold Tryz.ac11 AR AM AO
  repeat' (first
  | (apply Awp.sreg; (case hn => (simp only [List.length_cons, List.length_nil, Nat.reduceAdd] <;> rfl)))
  | (refine st_nil ?_)
  | (apply st_a; (case hc => rfl); (case he => (simp only [go_sem, *] <;> rfl)); (case hu => (simp only [updL_nil, updL_cons] <;> rfl)); (case hp => first | trivial))
  | (apply st_c; (case hc => (simp only [go_sem, *] <;> rfl)); (case hl => (simp only [go_sem, *] <;> rfl)); (case hn => (simp only [go_sem, *] <;> rfl)); (case hp => first | exact c0 | (have hXz := c0; simp only [go_sem, *] at hXz; exact hXz)))
  | (refine Awp.ret ?_; try simp only [go_sem, *])
  | (apply Awp.cond; (case hc => (simp only [go_sem, *] <;> rfl)); all_goals (intro hg; (try simp only [Bool.not_true, Bool.not_false, reduceCtorEq] at hg); (try have hg' := hg); (try simp only [decide_eq_true_eq, decide_eq_false_iff_not, Bool.and_eq_true, Bool.or_eq_false_iff, bne_iff_ne, bne_eq_false_iff_eq, beq_iff_eq, beq_eq_false_iff_ne, Int.not_lt, Int.not_le, Int.ofNat_lt, Int.ofNat_le, Int.natCast_inj] at hg')))
  | refine Awp.seq ?_)
  all_goals repeat' (first | exact Lower.int (by first | rfl | (simp only [true_and, Bool.true_and, Bool.false_and, Bool.and_true, Bool.and_false, Bool.true_or, Bool.false_or, reduceIte, Bool.false_eq_true, *]; done) | (simp only [true_and, reduceIte, Bool.false_eq_true, *] <;> rfl) | (simp [true_and]; done) | (simp_all [true_and]; done) | omega) | exact Lower.nilE (by first | rfl | (simp only [true_and, Bool.true_and, Bool.false_and, Bool.and_true, Bool.and_false, Bool.true_or, Bool.false_or, reduceIte, Bool.false_eq_true, *]; done) | (simp only [true_and, reduceIte, Bool.false_eq_true, *] <;> rfl) | (simp [true_and]; done) | (simp_all [true_and]; done) | omega) | refine Lower.tupF ?_ | refine All2.cons ?_ ?_ | exact All2.nil)
def getM (K : List ByteArray) (V : List Int) (s : ByteArray) : Int := match mapIx K s with
 | some i => V.getD i 0
 | none => 0
def iav (V : List Int) : List AV := V.map fun n => .v (.int .i64 n)
def pK (K : List ByteArray) (s : ByteArray) : List ByteArray := putK K s (mapIx K s)
def pV {α : Type} (K : List ByteArray) (V : List α) (s : ByteArray) (n : α) : List α := match mapIx K s with
 | some i => V.set i n
 | none => V ++ [n]
theorem getM_eq {K : List ByteArray} {V : List Int} (hl : V.length = K.length) (s : ByteArray) : mapVal (iav V) (.v (.int .i64 (0))) (mapIx K s) = .v (.int .i64 (getM K V s)) := by
 unfold getM
 cases h : mapIx K s with
 | none => rfl
 | some i =>
  have := mapIx_lt h
  simp [mapVal, iav, av, List.getD_eq_getElem?_getD, hl, this]
theorem putM_eq (K : List ByteArray) (V : List Int) (s : ByteArray) (n : Int) : putV (iav V) (.v (.int .i64 n)) (mapIx K s) = iav (pV K V s n) := by
 unfold pV
 cases h : mapIx K s with
 | none => simp [putV, iav]
 | some i => simp [putV, iav, List.map_set]
theorem pV_len {α : Type} (K : List ByteArray) (V : List α) (s : ByteArray) (n : α) (hl : V.length = K.length) : (pV K V s n).length = (pK K s).length := by
 unfold pV pK
 cases h : mapIx K s with
 | none => simp [putK, hl]
 | some i => simp [putK, hl]
theorem pK_eq (K : List ByteArray) (s : ByteArray) : putK K s (mapIx K s) = pK K s := rfl
def imax (a b : Int) : Int := if a < b then b else a
def frstM (K : List ByteArray) (V : List Int) (af : List ByteArray) : Int := af.foldl (fun n s => imax n (getM K V s)) 0
theorem frstM_step (K : List ByteArray) (V : List Int) (af : List ByteArray) (k : Nat) (h : k < af.length) : frstM K V (af.take (k + 1)) = imax (frstM K V (af.take k)) (getM K V (af.getD k ⟨#[]⟩)) := by
 unfold frstM
 rw [List.take_add_one, List.getElem?_eq_getElem h, List.foldl_append]
 simp [List.getD_eq_getElem?_getD, h]
structure Cr where
 K : List ByteArray
 V : List Int
 n : Int
def crS (c : Cr) (q : Wk) : Cr := ⟨pK c.K q.id, pV c.K c.V q.id (IntKind.i64.wrap (frstM c.K c.V q.af + q.hr)), imax c.n (getM (pK c.K q.id) (pV c.K c.V q.id (IntKind.i64.wrap (frstM c.K c.V q.af + q.hr))) q.id)⟩
def crG (l : List Wk) : Cr := l.foldl crS ⟨[], [], 0⟩
theorem crG_step (S : List Wk) (i : Nat) (h : i < S.length) : crG (S.take (i + 1)) = crS (crG (S.take i)) (S.getD i zeroWk) := by
 unfold crG
 rw [ids_take1 h, List.foldl_append]
 rfl
theorem crG_len : ∀ (l : List Wk) (c : Cr), c.V.length = c.K.length → (l.foldl crS c).V.length = (l.foldl crS c).K.length
 | [], c, h => h
 | q :: l, c, h => crG_len l (crS c q) (pV_len _ _ _ _ h)
def critE (l : List Wk) : Int := if (ordE l).2 ≠ 0 then 0 else (crG (ordE l).1).n
def cr1 (S : List Wk) (i : Nat) (c : Cr) : AState := mkS [(22, .sl (wks S)), (23, .v (.int .i64 S.length)), (24, .v (.int .i64 i)), (6, .v (.int .i64 c.n)), (7, .mapv 0)] [(0, .map c.K (iav c.V))]
def cr2 (S : List Wk) (i : Nat) (c : Cr) (q : Wk) (k : Nat) : AState := mkS [(22, .sl (wks S)), (23, .v (.int .i64 S.length)), (24, .v (.int .i64 i)), (6, .v (.int .i64 c.n)), (7, .mapv 0), (9, .bp 1 0), (29, .sl (strs q.af)), (30, .v (.int .i64 q.af.length)), (31, .v (.int .i64 k)), (10, .v (.int .i64 (frstM c.K c.V (q.af.take k))))] [(0, .map c.K (iav c.V)), (1, .box q.cells)]
theorem ordG_mem (S : List Wk) : ∀ (n : Nat) (W out : List Wk), ∀ q ∈ (ordG S n W out).1, q ∈ out ∨ q ∈ S
 | 0, _, out => fun q h => .inl h
 | n + 1, W, out => by
  unfold ordG
  split
  ·intro q h; simp at h
  ·rename_i h
   intro q hq
   rcases ordG_mem S n _ _ q hq with h1 | h1
   ·rcases List.mem_append.1 h1 with h2 | h2
    ·exact .inl h2
    ·rw [List.mem_singleton] at h2
     rcases idxF_cases (readyB W) S zeroWk with ⟨hi, _⟩ | ⟨i, hi, hlt, _⟩
     ·exact absurd hi h
     ·rw [h2, hi, Int.toNat_natCast]; exact .inr (getD_mem _ hlt)
   ·exact .inr h1
theorem ordE_mem (l : List Wk) : ∀ q ∈ (ordE l).1, q ∈ l := by
 unfold ordE
 split
 ·intro q h; simp at h
 ·intro q h
  rcases ordG_mem _ _ _ _ q h with h | h
  ·simp at h
  ·exact (sortW_perm l).mem_iff.1 h
theorem critical_ok (l : List Wk) (hl : l.length < 1000000) (ha : ∀ q ∈ l, q.af.length < 1000000) : Pure Tryz.prog 13 [.sl (wks l)] (.tup [.v (.int .i64 (critE l)), .v (.int .i64 (ordE l).2)]) := by
 have c0 := ordered_ok l hl ha
 have h1 := ordE_len l
 have h2 := ordE_err l
 have h3 : ∀ q ∈ (ordE l).1, q.af.length < 1000000 := fun q hq => ha q (ordE_mem l q hq)
 unfold critE
 generalize ordE l = R at *
 obtain ⟨S, e⟩ := R
 simp only at h1 h2 h3 c0 ⊢
 clear ha
 by_cases he : e = 0
 ·subst he
  clear h2
  rw [if_neg (by simp)]
  refine fn_pure Tryz.F13 (Nat.le_of_ble_eq_true rfl) ?_; unfold Tryz.ac13 AR AM AO
  repeat' (first
  | (apply Awp.sreg; (case hn => (simp only [List.length_cons, List.length_nil, Nat.reduceAdd] <;> rfl)))
  | (refine st_nil ?_)
  | (apply st_a; (case hc => rfl); (case he => (simp only [go_sem, *] <;> rfl)); (case hu => (simp only [updL_nil, updL_cons] <;> rfl)); (case hp => first | trivial))
  | (apply st_c; (case hc => (simp only [go_sem, *] <;> rfl)); (case hl => (simp only [go_sem, *] <;> rfl)); (case hn => (simp only [go_sem, *] <;> rfl)); (case hp => first | exact c0 | (have hXz := c0; simp only [go_sem, *] at hXz; exact hXz)))
  | (refine Awp.skip ?_; try simp only [go_sem, *])
  | refine Awp.block ?_
  | (apply Awp.cond; (case hc => (simp only [go_sem, *] <;> rfl)); all_goals (intro hg; (try simp only [Bool.not_true, Bool.not_false, reduceCtorEq] at hg)))
  | refine Awp.seq ?_)
  refine Awp.loop (fun i : Nat => i ≤ S.length) 100 (fun i => cr1 S i (crG (S.take i))) (fun i => S.length - i) 0 (Nat.zero_le _) ?_ ?_
  ·have e1 : crG (S.take 0) = ⟨[], [], 0⟩ := rfl
   rw [e1]
   unfold cr1
   clear h3
   (apply Ghost.mk [(0, 12)] []; (case hdead => rfl); (case hinj => rfl); (case hV => (simp only [go_sem, *]) <;> (repeat' (first | refine And.intro ?_ ?_ | exact View.int (by first | rfl | omega | (simp; done) | (rw [wrap_i64] <;> (try simp only [Int.natCast_add]) <;> omega) | (simp [*]; done)) | exact .mapv rfl (by decide)))); (case hB => (simp only [go_sem, *]) <;> (repeat' (first | exact ⟨_, rfl, BView.mapE (by first | rfl | omega | (simp; done) | (rw [wrap_i64] <;> (try simp only [Int.natCast_add]) <;> omega) | (simp [*]; done)) (by first | rfl | omega | (simp; done) | (rw [wrap_i64] <;> (try simp only [Int.natCast_add]) <;> omega) | (simp [*]; done))⟩))))
  ·intro i hi
   by_cases hlt : i < S.length
   ·have hlt' : (i : Int) < S.length := by omega
    have hat := wks_at S i hlt
    have hz : ((S.getD i zeroWk).cells).length = 5 := rfl
    have hst := crG_step S i hlt
    have hcl := crG_len (S.take i) ⟨[], [], 0⟩ rfl
    have hcl : (crG (S.take i)).V.length = (crG (S.take i)).K.length := hcl
    have hal := h3 _ (getD_mem zeroWk hlt)
    generalize S.getD i zeroWk = q at *
    generalize crG (S.take i) = c at *
    clear c0 h3
    unfold cr1
    repeat' (first
  | (apply Awp.sreg; (case hn => (simp only [List.length_cons, List.length_nil, Nat.reduceAdd] <;> rfl)))
  | (refine st_nil ?_)
  | (apply st_a; (case hc => rfl); (case he => (simp only [go_sem, *] <;> rfl)); (case hu => (simp only [updL_nil, updL_cons] <;> rfl)); (case hp => first | trivial | omega))
  | (refine Awp.skip ?_; try simp only [go_sem, *])
  | refine Awp.block ?_
  | (apply Awp.cond; (case hc => (simp only [go_sem, *] <;> rfl)); all_goals (intro hg; (try simp only [Bool.not_true, Bool.not_false, reduceCtorEq] at hg)))
  | refine Awp.seq ?_)
    refine Awp.loop (fun k : Nat => k ≤ q.af.length) 200 (fun k => cr2 S i c q k) (fun k => q.af.length - k) 0 (Nat.zero_le _) ?_ ?_
    ·have e1 : frstM c.K c.V (q.af.take 0) = 0 := rfl
     unfold cr2
     rw [e1]
     clear hst
     (apply Ghost.mk [(0, 0), (1, 103)] []; (case hdead => rfl); (case hinj => rfl); (case hV => (simp only [go_sem, *]) <;> (repeat' (first | refine And.intro ?_ ?_ | exact View.int (by first | rfl | omega | (simp; done) | (rw [wrap_i64] <;> (try simp only [Int.natCast_add]) <;> omega) | (simp [*]; done)) | exact .bp rfl (by decide) | exact .mapv rfl (by decide)))); (case hB => (simp only [go_sem, *]) <;> (repeat' (first | refine And.intro ?_ ?_ | exact ⟨_, rfl, BView.boxF rfl⟩ | exact ⟨_, rfl, BView.mapE (by first | rfl | omega | (simp; done) | (rw [wrap_i64] <;> (try simp only [Int.natCast_add]) <;> omega) | (simp [*]; done)) (by first | rfl | omega | (simp; done) | (rw [wrap_i64] <;> (try simp only [Int.natCast_add]) <;> omega) | (simp [*]; done))⟩))))
    ·intro k hk
     by_cases hkt : k < q.af.length
     ·have hkt' : (k : Int) < q.af.length := by omega
      have hsat := strs_at q.af k hkt
      have hf := frstM_step c.K c.V q.af k hkt
      have hg := getM_eq hcl (q.af.getD k ⟨#[]⟩)
      unfold imax at hf
      clear hst
      unfold cr2
      repeat' (first
  | (apply Awp.sreg; (case hn => (simp only [List.length_cons, List.length_nil, Nat.reduceAdd] <;> rfl)))
  | (refine st_nil ?_)
  | (apply st_a; (case hc => rfl); (case he => (simp only [go_sem, *] <;> rfl)); (case hu => (simp only [updL_nil, updL_cons] <;> rfl)); (case hp => first | trivial | omega))
  | (apply Awp.reg; (case hn => (simp only [List.length_cons, List.length_nil, Nat.reduceAdd] <;> rfl)))
  | (refine Awp.skip ?_; try simp only [go_sem, *])
  | refine Awp.block ?_
  | (apply Awp.cond; (case hc => (simp only [go_sem, *] <;> rfl)); all_goals (intro hg; (try simp only [Bool.not_true, Bool.not_false, reduceCtorEq] at hg)))
  | refine Awp.seq ?_)
      refine ⟨k + 1, by omega, by omega, ?_⟩
      (apply Ghost.mk [] []; (case hdead => rfl); (case hinj => rfl); (case hV => (simp only [go_sem, *]) <;> (repeat' (first | refine And.intro ?_ ?_ | exact View.int (by first | rfl | omega | (simp; done) | (rw [wrap_i64] <;> (try simp only [Int.natCast_add]) <;> omega) | (simp [*]; done)) | exact .bp rfl (by decide) | exact .mapv rfl (by decide)))); (case hB => (simp only [go_sem, *]) <;> (repeat' (first | refine And.intro ?_ ?_ | exact ⟨_, rfl, BView.boxF rfl⟩ | exact ⟨_, rfl, BView.mapE (by first | rfl | omega | (simp; done) | (rw [wrap_i64] <;> (try simp only [Int.natCast_add]) <;> omega) | (simp [*]; done)) (by first | rfl | omega | (simp; done) | (rw [wrap_i64] <;> (try simp only [Int.natCast_add]) <;> omega) | (simp [*]; done))⟩))))
     ·have hkt' : ¬ (k : Int) < q.af.length := by omega
      have e1 : q.af.take k = q.af := List.take_of_length_le (by omega)
      have hp := putM_eq c.K c.V q.id (IntKind.i64.wrap (frstM c.K c.V q.af + q.hr))
      have hpk := pK_eq c.K q.id
      have hg := getM_eq (pV_len c.K c.V q.id (IntKind.i64.wrap (frstM c.K c.V q.af + q.hr)) hcl) q.id
      unfold cr2
      rw [e1]
      clear e1
      unfold crS imax at hst
      repeat' (first
  | (apply Awp.sreg; (case hn => (simp only [List.length_cons, List.length_nil, Nat.reduceAdd] <;> rfl)))
  | (refine st_nil ?_)
  | (apply st_a; (case hc => rfl); (case he => (simp only [go_sem, *] <;> rfl)); (case hu => (simp only [updL_nil, updL_cons] <;> rfl)); (case hp => first | trivial))
  | (apply Awp.reg; (case hn => (simp only [List.length_cons, List.length_nil, Nat.reduceAdd] <;> rfl)))
  | (refine Awp.exit ?_; try simp only [go_sem, *])
  | (apply Awp.cond; (case hc => (simp only [go_sem, *] <;> rfl)); all_goals (intro hg; (try simp only [Bool.not_true, Bool.not_false, reduceCtorEq] at hg)))
  | refine Awp.seq ?_)
      refine ⟨i + 1, by omega, by omega, ?_⟩
      rw [hst]
      clear hst
      (apply Ghost.mk [] []; (case hdead => rfl); (case hinj => rfl); (case hV => (simp only [go_sem, *]) <;> (repeat' (first | refine And.intro ?_ ?_ | exact View.int (by first | rfl | omega | (simp; done) | (rw [wrap_i64] <;> (try simp only [Int.natCast_add]) <;> omega) | (simp [*]; done)) | exact .mapv rfl (by decide)))); (case hB => (simp only [go_sem, *]) <;> (repeat' (first | exact ⟨_, rfl, BView.mapE (by first | rfl | omega | (simp; done) | (rw [wrap_i64] <;> (try simp only [Int.natCast_add]) <;> omega) | (simp [*]; done)) (by first | rfl | omega | (simp; done) | (rw [wrap_i64] <;> (try simp only [Int.natCast_add]) <;> omega) | (simp [*]; done))⟩))))
   ·have hlt' : ¬ (i : Int) < S.length := by omega
    have e1 : S.take i = S := List.take_of_length_le (by omega)
    rw [e1]
    clear c0 e1 h3
    unfold cr1
    repeat' (first
  | (apply Awp.sreg; (case hn => (simp only [List.length_cons, List.length_nil, Nat.reduceAdd] <;> rfl)))
  | (refine st_nil ?_)
  | (apply st_a; (case hc => rfl); (case he => (simp only [go_sem, *] <;> rfl)); (case hu => (simp only [updL_nil, updL_cons] <;> rfl)); (case hp => first | trivial))
  | (refine Awp.ret ?_; try simp only [go_sem, *])
  | (refine Awp.exit ?_; try simp only [go_sem, *])
  | (apply Awp.cond; (case hc => (simp only [go_sem, *] <;> rfl)); all_goals (intro hg; (try simp only [Bool.not_true, Bool.not_false, reduceCtorEq] at hg)))
  | refine Awp.seq ?_)
    all_goals repeat' (first | exact Lower.int (by first | rfl | (simp only [true_and, Bool.true_and, Bool.false_and, Bool.and_true, Bool.and_false, Bool.true_or, Bool.false_or, reduceIte, Bool.false_eq_true, *]; done) | (simp only [true_and, reduceIte, Bool.false_eq_true, *] <;> rfl) | (simp [true_and]; done) | (simp_all [true_and]; done) | omega) | refine Lower.tupF ?_ | refine All2.cons ?_ ?_ | exact All2.nil)
 ·have he' : (e != 0) = true := by simpa using he
  rw [if_pos he]
  clear h2 h3
  refine fn_pure Tryz.F13 (Nat.le_of_ble_eq_true rfl) ?_; unfold Tryz.ac13 AR AM AO
  repeat' (first
  | (apply Awp.sreg; (case hn => (simp only [List.length_cons, List.length_nil, Nat.reduceAdd] <;> rfl)))
  | (refine st_nil ?_)
  | (apply st_a; (case hc => rfl); (case he => (simp only [go_sem, *] <;> rfl)); (case hu => (simp only [updL_nil, updL_cons] <;> rfl)); (case hp => first | trivial))
  | (apply st_c; (case hc => (simp only [go_sem, *] <;> rfl)); (case hl => (simp only [go_sem, *] <;> rfl)); (case hn => (simp only [go_sem, *] <;> rfl)); (case hp => first | exact c0 | (have hXz := c0; simp only [go_sem, *] at hXz; exact hXz)))
  | (refine Awp.ret ?_; try simp only [go_sem, *])
  | (apply Awp.cond; (case hc => (simp only [go_sem, *] <;> rfl)); all_goals (intro hg; (try simp only [Bool.not_true, Bool.not_false, reduceCtorEq] at hg); (try have hg' := hg); (try simp only [decide_eq_true_eq, decide_eq_false_iff_not, Bool.and_eq_true, Bool.or_eq_false_iff, bne_iff_ne, bne_eq_false_iff_eq, beq_iff_eq, beq_eq_false_iff_ne, Int.not_lt, Int.not_le, Int.ofNat_lt, Int.ofNat_le, Int.natCast_inj] at hg')))
  | refine Awp.seq ?_)
  all_goals repeat' (first | exact Lower.int (by first | rfl | (simp only [true_and, Bool.true_and, Bool.false_and, Bool.and_true, Bool.and_false, Bool.true_or, Bool.false_or, reduceIte, Bool.false_eq_true, *]; done) | (simp only [true_and, reduceIte, Bool.false_eq_true, *] <;> rfl) | (simp [true_and]; done) | (simp_all [true_and]; done) | omega) | refine Lower.tupF ?_ | refine All2.cons ?_ ?_ | exact All2.nil)
end Go.Proofs
namespace Go.Proofs
open Go Go.Ab
set_option maxHeartbeats 4000000
set_option maxRecDepth 100000
attribute [local irreducible] Awp aops aopsL Go.Ab.Pure PureOwn
theorem ints_snoc (l : List Int) (s : Int) : ints l ++ [[.v (.int .i64 s)]] = ints (l ++ [s]) := by simp [ints]
theorem ints_one1 (s : Int) : [[AV.v (.int .i64 s)]] = ints [s] := rfl
theorem take_snoc {α : Type} (l : List α) (d : α) (i : Nat) (h : i < l.length) : l.take (i + 1) = l.take i ++ [l.getD i d] := by
 rw [List.take_add_one, List.getElem?_eq_getElem h]
 simp [List.getD_eq_getElem?_getD, h]
def endsL (l : List Sty) (fr : Int) : List Int := fr :: (l.filter fun q => decide (fr < q.b)).map (·.b)
theorem endsL_len (l : List Sty) (fr : Int) : (endsL l fr).length ≤ l.length + 1 := by
 have := List.length_filter_le (fun q : Sty => decide (fr < q.b)) l
 simp [endsL]; omega
theorem endsL_step (l : List Sty) (fr : Int) (i : Nat) (h : i < l.length) : endsL (l.take (i + 1)) fr = endsL (l.take i) fr ++ (if decide (fr < (l.getD i zeroSty).b) = true then [(l.getD i zeroSty).b] else []) := by
 rw [take_snoc l zeroSty i h]
 unfold endsL
 rw [List.filter_append, List.map_append, List.cons_append]
 congr 1
 congr 1
 by_cases hp : decide (fr < (l.getD i zeroSty).b) = true
 ·rw [if_pos hp, List.filter_cons_of_pos (by exact hp)]; rfl
 ·rw [if_neg hp, List.filter_cons_of_neg (by exact hp)]; rfl
def startsZ (l : List Sty) (fr : Int) : List Int := Lib.compact (sortI (endsL l fr))
theorem starts_ok (l : List Sty) (fr : Int) (hl : l.length < 900000) : PureOwn Tryz.prog 53 [.sl (stys l), .v (.int .i64 fr)] (ints (startsZ l fr)) 1 3 := by
 have e0 := ints_one1 fr
 refine fn_own Tryz.F53 (Nat.le_of_ble_eq_true rfl) ?_; unfold Tryz.ac53 AR AM AO
 repeat' (first
  | (apply Awp.sreg; (case hn => (simp only [List.length_cons, List.length_nil, Nat.reduceAdd] <;> rfl)))
  | (refine st_nil ?_)
  | (apply st_a; (case hc => rfl); (case he => (simp only [go_sem, *] <;> rfl)); (case hu => (simp only [updL_nil, updL_cons] <;> rfl)); (case hp => first | trivial | (simp; done)))
  | refine Awp.block ?_
  | refine Awp.seq ?_)
 refine Awp.loop (fun i : Nat => i ≤ l.length) 50 (fun i => mkS [(1, .v (.int .i64 fr)), (5, .own 0), (10, .sl (stys l)), (11, .v (.int .i64 l.length)), (12, .v (.int .i64 i))] [(0, .row (ints (endsL (l.take i) fr)) 1 3)]) (fun i => l.length - i) 0 (by omega) ?_ ?_
 ·have e1 : endsL (l.take 0) fr = [fr] := rfl
  (apply Ghost.mk [(0, 2)] []; (case hdead => rfl); (case hinj => rfl); (case hV => (simp only [go_sem, *]) <;> (repeat' (first | refine And.intro ?_ ?_ | exact View.int (by first | rfl | omega | (simp; done) | (rw [wrap_i64] <;> (try simp only [Int.natCast_add]) <;> omega) | (simp [*]; done)) | exact .own rfl (by decide)))); (case hB => (simp only [go_sem, *]) <;> (repeat' (first | exact ⟨_, rfl, .rowE (by first | rfl | omega | (simp; done) | (rw [wrap_i64] <;> (try simp only [Int.natCast_add]) <;> omega) | (simp [*]; done))⟩))))
 ·intro i hi
  by_cases hlt : i < l.length
  ·have hlt' : (i : Int) < l.length := by omega
   have hat := stys_at l i hlt
   have hz : ((l.getD i zeroSty).cells).length = 8 := rfl
   have hst := endsL_step l fr i hlt
   have hln := endsL_len (l.take i) fr
   have htl : (l.take i).length = i := List.length_take_of_le hi
   cases hB : decide (fr < (l.getD i zeroSty).b)
   ·rw [hB] at hst
    simp only [Bool.false_eq_true, if_false, List.append_nil] at hst
    repeat' (first
  | (apply Awp.sreg; (case hn => (simp only [List.length_cons, List.length_nil, Nat.reduceAdd] <;> rfl)))
  | (refine st_nil ?_)
  | (apply st_a; (case hc => rfl); (case he => (simp only [go_sem, *] <;> rfl)); (case hu => (simp only [updL_nil, updL_cons] <;> rfl)); (case hp => first | trivial | omega))
  | (apply Awp.reg; (case hn => (simp only [List.length_cons, List.length_nil, Nat.reduceAdd] <;> rfl)))
  | (refine Awp.skip ?_; try simp only [go_sem, *])
  | refine Awp.block ?_
  | (apply Awp.cond; (case hc => (simp only [go_sem, *] <;> rfl)); all_goals (intro hg; (try simp only [Bool.not_true, Bool.not_false, reduceCtorEq] at hg)))
  | refine Awp.seq ?_)
    refine ⟨i + 1, by omega, by omega, ?_⟩
    (apply Ghost.mk [] []; (case hdead => rfl); (case hinj => rfl); (case hV => (simp only [go_sem, *]) <;> (repeat' (first | refine And.intro ?_ ?_ | exact View.int (by first | rfl | omega | (simp; done) | (rw [wrap_i64] <;> (try simp only [Int.natCast_add]) <;> omega) | (simp [*]; done)) | exact .own rfl (by decide)))); (case hB => (simp only [go_sem, *]) <;> (repeat' (first | exact ⟨_, rfl, .rowE (by first | rfl | omega | (simp; done) | (rw [wrap_i64] <;> (try simp only [Int.natCast_add]) <;> omega) | (simp [*]; done))⟩))))
   ·rw [hB] at hst
    simp only [if_true] at hst
    repeat' (first
  | (apply Awp.sreg; (case hn => (simp only [List.length_cons, List.length_nil, Nat.reduceAdd] <;> rfl)))
  | (refine st_nil ?_)
  | (apply st_a; (case hc => rfl); (case he => (simp only [go_sem, *] <;> rfl)); (case hu => (simp only [updL_nil, updL_cons] <;> rfl)); (case hp => first | trivial | omega | (simp; done) | (simp; omega)))
  | (apply Awp.reg; (case hn => (simp only [List.length_cons, List.length_nil, Nat.reduceAdd] <;> rfl)))
  | (refine Awp.skip ?_; try simp only [go_sem, *])
  | refine Awp.block ?_
  | (apply Awp.cond; (case hc => (simp only [go_sem, *] <;> rfl)); all_goals (intro hg; (try simp only [Bool.not_true, Bool.not_false, reduceCtorEq] at hg)))
  | refine Awp.seq ?_)
    refine ⟨i + 1, by omega, by omega, ?_⟩
    (apply Ghost.mk [(0, 65)] []; (case hdead => rfl); (case hinj => rfl); (case hV => (simp only [go_sem, *]) <;> (repeat' (first | refine And.intro ?_ ?_ | exact View.int (by first | rfl | exact ints_snoc _ _ | omega | (simp; done) | (rw [wrap_i64] <;> (try simp only [Int.natCast_add]) <;> omega) | (simp [*]; done)) | exact .own rfl (by decide)))); (case hB => (simp only [go_sem, *]) <;> (repeat' (first | exact ⟨_, rfl, .rowE (by first | rfl | exact ints_snoc _ _ | omega | (simp; done) | (rw [wrap_i64] <;> (try simp only [Int.natCast_add]) <;> omega) | (simp [*]; done))⟩))))
  ·have hlt' : ¬ (i : Int) < l.length := by omega
   have e1 : l.take i = l := List.take_of_length_le (by omega)
   have hln := endsL_len l fr
   have hs1 := sort_cc (endsL l fr) 0 51 3 (by omega)
   have hs2 : (sortI (endsL l fr)).length < 1000000 := by rw [sortI_len]; omega
   repeat' (first
  | (apply Awp.sreg; (case hn => (simp only [List.length_cons, List.length_nil, Nat.reduceAdd] <;> rfl)))
  | (refine st_nil ?_)
  | (apply st_a; (case hc => rfl); (case he => (simp only [go_sem, *] <;> rfl)); (case hu => (simp only [updL_nil, updL_cons] <;> rfl)); (case hp => first | trivial))
  | (apply st_cc; (case hc => (simp only [go_sem, *] <;> rfl)); (case hcc => exact sort_cc (endsL l fr) _ _ 3 (by omega)); (case hh => (first | (simp only [List.mem_singleton, forall_eq]; first | (simp only [go_sem, *] <;> rfl) | (simp only [go_sem, *]; simp [ints])) | (intro p hp; cases hp; done) | (intro p hp; simp only [List.mem_cons, List.not_mem_nil, or_false] at hp; rcases hp with rfl | rfl | rfl | rfl | rfl | rfl | rfl <;> (simp only [go_sem, *] <;> rfl)) | (intro p hp; simp only [List.mem_cons, List.not_mem_nil, or_false] at hp; rcases hp with rfl | rfl | rfl | rfl <;> (simp only [go_sem, *] <;> rfl)))); (case hu => (first | (simp; done) | decide)); (case hm => (first | decide | (simp; done))); (case hw => (simp only [updL_nil, updL_cons] <;> rfl)))
  | (apply st_cc; (case hc => (simp only [go_sem, *] <;> rfl)); (case hcc => exact compact_cc (sortI (endsL l fr)) _ _ 3 (by decide) hs2); (case hh => (first | (simp only [List.mem_singleton, forall_eq]; first | (simp only [go_sem, *] <;> rfl) | (simp only [go_sem, *]; simp [ints])) | (intro p hp; cases hp; done) | (intro p hp; simp only [List.mem_cons, List.not_mem_nil, or_false] at hp; rcases hp with rfl | rfl | rfl | rfl | rfl | rfl | rfl <;> (simp only [go_sem, *] <;> rfl)) | (intro p hp; simp only [List.mem_cons, List.not_mem_nil, or_false] at hp; rcases hp with rfl | rfl | rfl | rfl <;> (simp only [go_sem, *] <;> rfl)))); (case hu => (first | (simp; done) | decide)); (case hm => (first | decide | (simp; done))); (case hw => (simp only [updL_nil, updL_cons] <;> rfl)))
  | (refine Awp.ret ?_; try simp only [go_sem, *])
  | (refine Awp.exit ?_; try simp only [go_sem, *])
  | (apply Awp.cond; (case hc => (simp only [go_sem, *] <;> rfl)); all_goals (intro hg; (try simp only [Bool.not_true, Bool.not_false, reduceCtorEq] at hg)))
  | refine Awp.seq ?_)
   exact ⟨54, rfl, rfl⟩
def Sty.at_ (x : Sty) (X Y : Int) : Sty := ⟨x.item, x.bay, X, Y, x.len, x.wid, x.a, x.b⟩
theorem spotC_ok (bs : List By) (near : List Sty) (x : Sty) (X Y : Int) (nm : Nat) (hb : bs.length < 1000000) (hl : near.length < 1000000) (hnm : 4 ≤ nm) :
  CallC Tryz.prog 79 [.agg [.v (.int .i64 X), .v (.int .i64 Y)], .bp 1 0, .bp 0 0, .bp 2 0] [(1, .box x.cells), (0, .box [.sl (bys bs)]), (2, .box [.own 3]), (3, .row (stys near) 8 48)] nm
   (.v (.bool (stayE bs near (x.at_ X Y) == 0))) [(1, some (.box (x.at_ X Y).cells)), (0, some (.box [.sl (bys bs)])), (2, some (.box [.own 3])), (3, some (.row (stys near) 8 48))] := by
 have c0 := stay_ok bs near (x.at_ X Y) hb hl
 generalize hE : stayE bs near (x.at_ X Y) = e at c0 ⊢
 unfold Sty.at_ at *
 refine fn_cc Tryz.F79 (Nat.le_of_ble_eq_true rfl) (bs := 4) ?_ ?_ ?_ ?_ ?_ ?_ ?_
 ·simp
 ·simp; omega
 ·simp
 ·simp
 ·simp only [List.map_cons, List.map_nil, List.mem_cons, List.not_mem_nil, or_false]
  rintro p (rfl | rfl | rfl | rfl)
  ·exact .box rfl fun j hj => .low (by match j, hj with | 0, _ | 1, _ | 2, _ | 3, _ | 4, _ | 5, _ | 6, _ | 7, _ => exact .same _ rfl)
  ·exact .box rfl fun j hj => .low (by match j, hj with | 0, _ => exact .same _ rfl)
  ·exact .box rfl fun j hj => by match j, hj with | 0, _ => exact .own rfl (by simp)
  ·exact .row rfl
 ·intro j hj
  match j, hj with
  | 0, _ => exact .low (.agg rfl fun j hj => by match j, hj with | 0, _ | 1, _ => exact .same _ rfl)
  | 1, _ => exact .bp rfl (by simp)
  | 2, _ => exact .bp rfl (by simp)
  | 3, _ => exact .bp rfl (by simp)
 ·unfold Tryz.ac79 AR AM AO
  clear hE
  have hav0 : av [AV.agg [AV.v (.int .i64 X), AV.v (.int .i64 Y)], AV.bp 1 0, AV.bp 0 0, AV.bp 2 0] 0 = AV.agg [AV.v (.int .i64 X), AV.v (.int .i64 Y)] := rfl
  have hav1 : av [AV.agg [AV.v (.int .i64 X), AV.v (.int .i64 Y)], AV.bp 1 0, AV.bp 0 0, AV.bp 2 0] 1 = AV.bp 1 0 := rfl
  have hav2 : av [AV.agg [AV.v (.int .i64 X), AV.v (.int .i64 Y)], AV.bp 1 0, AV.bp 0 0, AV.bp 2 0] 2 = AV.bp 0 0 := rfl
  have hav3 : av [AV.agg [AV.v (.int .i64 X), AV.v (.int .i64 Y)], AV.bp 1 0, AV.bp 0 0, AV.bp 2 0] 3 = AV.bp 2 0 := rfl
  repeat' (first
  | (apply Awp.sreg; (case hn => (simp only [List.length_cons, List.length_nil, Nat.reduceAdd] <;> rfl)))
  | (refine st_nil ?_)
  | (apply st_a; (case hc => rfl); (case he => (simp only [go_sem, *] <;> rfl)); (case hu => (simp only [updL_nil, updL_cons] <;> rfl)); (case hp => first | trivial))
  | (apply st_cd; (case hc => (simp only [go_sem, *] <;> rfl)); (case hl => (simp only [go_sem, *] <;> rfl)); (case hn => (simp only [go_sem, *] <;> rfl)); (case hp => first | exact c0 | (have hXz := c0; simp only [go_sem, *] at hXz; exact hXz)); (case hd => first | exact .v _ | exact .any | exact .nils | (repeat' (first | exact Dry.v _ | exact Dry.any | exact Dry.nils | exact Dry.slE | refine Dry.agg ?_ | refine Dry.tup ?_ | (refine List.forall_mem_cons.2 (And.intro ?_ ?_)) | (intro cQ hQ; cases hQ; done)))); (case hm => first | decide | (simp; done)))
  | (refine Awp.ret ?_; try simp only [go_sem, *]))
  have hr : ∀ k, k < 4 → rn nm 4 k = k := fun k hk => by unfold rn; rw [if_neg (by omega)]
  refine ⟨4, Nat.le_refl _, .low (.same _ rfl), fun k b' hk => ?_⟩
  by_cases h3 : k = 3
  ·subst h3
   have e1 : b' = .row (stys near) 8 48 := by simpa [upd] using hk.symm
   subst e1
   rw [hr 3 (by omega)]
   exact ⟨_, rfl, .row rfl⟩
  by_cases h2 : k = 2
  ·subst h2
   have e1 : b' = .box [.own 3] := by simpa [upd] using hk.symm
   subst e1
   rw [hr 2 (by omega)]
   exact ⟨_, rfl, .box rfl fun j hj => by match j, hj with | 0, _ => exact .own (hr 3 (by omega)) (by simp)⟩
  by_cases h0 : k = 0
  ·subst h0
   have e1 : b' = .box [.sl (bys bs)] := by simpa [upd] using hk.symm
   subst e1
   rw [hr 0 (by omega)]
   exact ⟨_, rfl, .box rfl fun j hj => .low (by match j, hj with | 0, _ => exact .same _ rfl)⟩
  by_cases h1 : k = 1
  ·subst h1
   have e1 : b' = .box [.v (.string x.item), .v (.string x.bay), .v (.int .i64 X), .v (.int .i64 Y), .v (.int .i64 x.len), .v (.int .i64 x.wid), .v (.int .i64 x.a), .v (.int .i64 x.b)] := by simpa [upd] using hk.symm
   subst e1
   rw [hr 1 (by omega)]
   exact ⟨_, rfl, .box rfl fun j hj => .low (by match j, hj with | 0, _ | 1, _ | 2, _ | 3, _ | 4, _ | 5, _ | 6, _ | 7, _ => exact .same _ rfl)⟩
  ·simp [upd, listH, h0, h1, h2, h3] at hk
theorem stys_snoc (l : List Sty) (x : Sty) : stys l ++ [[.v (.string x.item), .v (.string x.bay), .v (.int .i64 x.x), .v (.int .i64 x.y), .v (.int .i64 x.len), .v (.int .i64 x.wid), .v (.int .i64 x.a), .v (.int .i64 x.b)]] = stys (l ++ [x]) := by simp [stys, Sty.cells]
def bigBy (q : By) : Bool := decide ((100 : Int) < q.nm.size)
def bigSty (q : Sty) : Bool := decide ((100 : Int) < q.item.size) || decide ((100 : Int) < q.bay.size)
def noneBig {α : Type} (p : α → Bool) (d : α) (l : List α) (m : Nat) : Bool := (List.range (min l.length m)).all fun i => !p (l.getD i d)
theorem noneBig_bad {α : Type} {p : α → Bool} {d : α} {l : List α} {m i : Nat} (h1 : i < l.length) (h2 : i < m) (h : p (l.getD i d) = true) : noneBig p d l m = false := by
 unfold noneBig
 rw [List.all_eq_false]
 exact ⟨i, List.mem_range.2 (by omega), by rw [h]; simp⟩
theorem noneBig_end {α : Type} {p : α → Bool} {d : α} {l : List α} {m i : Nat} (h : ¬ (i < l.length ∧ i < m)) (hj : ∀ j, j < i → p (l.getD j d) = false) : noneBig p d l m = true := by
 unfold noneBig
 rw [List.all_eq_true]
 intro j hjm
 have := List.mem_range.1 hjm
 rw [hj j (by omega)]; rfl
def fewB (bs : List By) (l : List Sty) : Bool := noneBig bigBy zeroBy bs 13 && noneBig bigSty zeroSty l 61 && decide ((bs.length : Int) ≤ 12) && decide ((l.length : Int) ≤ 60)
theorem few_ok (bs : List By) (l : List Sty) : Pure Tryz.prog 16 [.sl (bys bs), .sl (stys l)] (.v (.bool (fewB bs l))) := by
 refine fn_pure Tryz.F16 (Nat.le_of_ble_eq_true rfl) ?_; unfold Tryz.ac16 AR AM AO
 repeat' (first
  | (apply Awp.sreg; (case hn => (simp only [List.length_cons, List.length_nil, Nat.reduceAdd] <;> rfl)))
  | (refine st_nil ?_)
  | (apply st_a; (case hc => rfl); (case he => (simp only [go_sem, *] <;> rfl)); (case hu => (simp only [updL_nil, updL_cons] <;> rfl)); (case hp => first | trivial))
  | refine Awp.block ?_
  | refine Awp.seq ?_)
 refine Awp.loop (fun i : Nat => i ≤ 13 ∧ ∀ j, j < i → bigBy (bs.getD j zeroBy) = false) 40 (fun i => mkS [(0, .sl (bys bs)), (1, .sl (stys l)), (5, .v (.int .i64 i))] []) (fun i => 13 - i) 0 (by simp) ?_ ?_
 ·(apply Ghost.mk [] []; (case hdead => rfl); (case hinj => rfl); (case hV => (simp only [go_sem, *]) <;> (repeat' (first | exact View.int (by first | rfl | omega | (simp; done) | (rw [wrap_i64] <;> (try simp only [Int.natCast_add]) <;> omega) | (simp [*]; done))))); (case hB => (simp only [go_sem, *]) <;> (repeat' (first | skip; done))))
 ·intro i ⟨hi, hj⟩
  by_cases hlt : i < bs.length ∧ i < 13
  ·have hlt' : (i : Int) < bs.length := by omega
   have h13 : (i : Int) < 13 := by omega
   have hat := bys_at bs i hlt.1
   have hz : ((bs.getD i zeroBy).cells).length = 3 := rfl
   cases hB : bigBy (bs.getD i zeroBy)
   ·have hB' := hB
    unfold bigBy at hB'
    repeat' (first
  | (apply Awp.sreg; (case hn => (simp only [List.length_cons, List.length_nil, Nat.reduceAdd] <;> rfl)))
  | (refine st_nil ?_)
  | (apply st_a; (case hc => rfl); (case he => (simp only [go_sem, *] <;> rfl)); (case hu => (simp only [updL_nil, updL_cons] <;> rfl)); (case hp => first | trivial | omega))
  | (apply st_m; (case hc => rfl); (case hg => (simp only [go_sem, *] <;> rfl)); (case he => (intro hQz; (try simp only [wantB_t, wantB_f, Bool.and_eq_true, Bool.not_eq_true', Bool.not_true, Bool.not_false, and_true, true_and] at hQz); simp only [go_sem, *] <;> rfl)); (case hp => (intro hQz; (try simp only [wantB_t, wantB_f, Bool.and_eq_true, Bool.not_eq_true', Bool.or_eq_false_iff, decide_eq_true_eq, decide_eq_false_iff_not, beq_iff_eq, beq_eq_false_iff_ne, bne_iff_ne, bne_eq_false_iff_eq, Int.not_lt, Int.not_le, Int.ofNat_lt, Int.ofNat_le] at hQz); first | trivial)))
  | (apply Awp.reg; (case hn => (simp only [List.length_cons, List.length_nil, Nat.reduceAdd] <;> rfl)))
  | (refine Awp.skip ?_; try simp only [go_sem, *])
  | refine Awp.block ?_
  | (apply Awp.cond; (case hc => (simp only [go_sem, *] <;> rfl)); all_goals (intro hg; (try simp only [Bool.not_true, Bool.not_false, reduceCtorEq] at hg)))
  | refine Awp.seq ?_)
    refine ⟨i + 1, ⟨by omega, ltSucc hj hB⟩, by omega, ?_⟩
    (apply Ghost.mk [] []; (case hdead => rfl); (case hinj => rfl); (case hV => (simp only [go_sem, *]) <;> (repeat' (first | exact View.int (by first | rfl | omega | (simp; done) | (rw [wrap_i64] <;> (try simp only [Int.natCast_add]) <;> omega) | (simp [*]; done))))); (case hB => (simp only [go_sem, *]) <;> (repeat' (first | skip; done))))
   ·have hB' := hB
    unfold bigBy at hB'
    have hn := noneBig_bad hlt.1 hlt.2 hB
    repeat' (first
  | (apply Awp.sreg; (case hn => (simp only [List.length_cons, List.length_nil, Nat.reduceAdd] <;> rfl)))
  | (refine st_nil ?_)
  | (apply st_a; (case hc => rfl); (case he => (simp only [go_sem, *] <;> rfl)); (case hu => (simp only [updL_nil, updL_cons] <;> rfl)); (case hp => first | trivial | omega))
  | (apply st_m; (case hc => rfl); (case hg => (simp only [go_sem, *] <;> rfl)); (case he => (intro hQz; (try simp only [wantB_t, wantB_f, Bool.and_eq_true, Bool.not_eq_true', Bool.not_true, Bool.not_false, and_true, true_and] at hQz); simp only [go_sem, *] <;> rfl)); (case hp => (intro hQz; (try simp only [wantB_t, wantB_f, Bool.and_eq_true, Bool.not_eq_true', Bool.or_eq_false_iff, decide_eq_true_eq, decide_eq_false_iff_not, beq_iff_eq, beq_eq_false_iff_ne, bne_iff_ne, bne_eq_false_iff_eq, Int.not_lt, Int.not_le, Int.ofNat_lt, Int.ofNat_le] at hQz); first | trivial)))
  | (refine Awp.ret ?_; try simp only [go_sem, *])
  | (refine Awp.skip ?_; try simp only [go_sem, *])
  | refine Awp.block ?_
  | (apply Awp.cond; (case hc => (simp only [go_sem, *] <;> rfl)); all_goals (intro hg; (try simp only [Bool.not_true, Bool.not_false, reduceCtorEq] at hg)))
  | refine Awp.seq ?_)
    exact Lower.bool (by unfold fewB; rw [hn]; rfl)
  ·have hlt' : (decide ((i : Int) < bs.length) && decide ((i : Int) < 13)) = false := by simp; omega
   have hn := noneBig_end hlt hj
   clear hj
   repeat' (first
  | (apply Awp.sreg; (case hn => (simp only [List.length_cons, List.length_nil, Nat.reduceAdd] <;> rfl)))
  | (refine st_nil ?_)
  | (apply st_a; (case hc => rfl); (case he => (simp only [go_sem, *] <;> rfl)); (case hu => (simp only [updL_nil, updL_cons] <;> rfl)); (case hp => first | trivial))
  | (apply st_m; (case hc => rfl); (case hg => (simp only [go_sem, *] <;> rfl)); (case he => (intro hQz; (try simp only [wantB_t, wantB_f, Bool.and_eq_true, Bool.not_eq_true', Bool.not_true, Bool.not_false, and_true, true_and] at hQz); simp only [go_sem, *] <;> rfl)); (case hp => (intro hQz; (try simp only [wantB_t, wantB_f, Bool.and_eq_true, Bool.not_eq_true', Bool.or_eq_false_iff, decide_eq_true_eq, decide_eq_false_iff_not, beq_iff_eq, beq_eq_false_iff_ne, bne_iff_ne, bne_eq_false_iff_eq, Int.not_lt, Int.not_le, Int.ofNat_lt, Int.ofNat_le] at hQz); first | trivial)))
  | (refine Awp.exit ?_; try simp only [go_sem, *])
  | refine Awp.block ?_
  | (apply Awp.cond; (case hc => (simp only [go_sem, *] <;> rfl)); all_goals (intro hg; (try simp only [Bool.not_true, Bool.not_false, reduceCtorEq] at hg)))
  | refine Awp.seq ?_)
   clear hlt hlt' hi
   refine Awp.loop (fun i : Nat => i ≤ 61 ∧ ∀ j, j < i → bigSty (l.getD j zeroSty) = false) 60 (fun i => mkS [(0, .sl (bys bs)), (1, .sl (stys l)), (6, .v (.int .i64 i))] []) (fun i => 61 - i) 0 (by simp) ?_ ?_
   ·(apply Ghost.mk [] []; (case hdead => rfl); (case hinj => rfl); (case hV => (simp only [go_sem, *]) <;> (repeat' (first | exact View.int (by first | rfl | omega | (simp; done) | (rw [wrap_i64] <;> (try simp only [Int.natCast_add]) <;> omega) | (simp [*]; done))))); (case hB => (simp only [go_sem, *]) <;> (repeat' (first | skip; done))))
   ·intro k ⟨hi, hj⟩
    by_cases hlt : k < l.length ∧ k < 61
    ·have hlt' : (k : Int) < l.length := by omega
     have h13 : (k : Int) < 61 := by omega
     have hat := stys_at l k hlt.1
     have hz : ((l.getD k zeroSty).cells).length = 8 := rfl
     cases hB : bigSty (l.getD k zeroSty)
     ·have hB' := hB
      unfold bigSty at hB'
      repeat' (first
  | (apply Awp.sreg; (case hn => (simp only [List.length_cons, List.length_nil, Nat.reduceAdd] <;> rfl)))
  | (refine st_nil ?_)
  | (apply st_a; (case hc => rfl); (case he => (simp only [go_sem, *] <;> rfl)); (case hu => (simp only [updL_nil, updL_cons] <;> rfl)); (case hp => first | trivial | omega))
  | (apply st_m; (case hc => rfl); (case hg => (simp only [go_sem, *] <;> rfl)); (case he => (intro hQz; (try simp only [wantB_t, wantB_f, Bool.and_eq_true, Bool.not_eq_true', Bool.not_true, Bool.not_false, and_true, true_and] at hQz); simp only [go_sem, *] <;> rfl)); (case hp => (intro hQz; (try simp only [wantB_t, wantB_f, Bool.and_eq_true, Bool.not_eq_true', Bool.or_eq_false_iff, decide_eq_true_eq, decide_eq_false_iff_not, beq_iff_eq, beq_eq_false_iff_ne, bne_iff_ne, bne_eq_false_iff_eq, Int.not_lt, Int.not_le, Int.ofNat_lt, Int.ofNat_le] at hQz); first | trivial | omega)))
  | (apply Awp.reg; (case hn => (simp only [List.length_cons, List.length_nil, Nat.reduceAdd] <;> rfl)))
  | (refine Awp.skip ?_; try simp only [go_sem, *])
  | refine Awp.block ?_
  | (apply Awp.cond; (case hc => (simp only [go_sem, *] <;> rfl)); all_goals (intro hg; (try simp only [Bool.not_true, Bool.not_false, reduceCtorEq] at hg)))
  | refine Awp.seq ?_)
      refine ⟨k + 1, ⟨by omega, ltSucc hj hB⟩, by omega, ?_⟩
      (apply Ghost.mk [] []; (case hdead => rfl); (case hinj => rfl); (case hV => (simp only [go_sem, *]) <;> (repeat' (first | exact View.int (by first | rfl | omega | (simp; done) | (rw [wrap_i64] <;> (try simp only [Int.natCast_add]) <;> omega) | (simp [*]; done))))); (case hB => (simp only [go_sem, *]) <;> (repeat' (first | skip; done))))
     ·have hB' := hB
      unfold bigSty at hB'
      have hn2 := noneBig_bad hlt.1 hlt.2 hB
      repeat' (first
  | (apply Awp.sreg; (case hn => (simp only [List.length_cons, List.length_nil, Nat.reduceAdd] <;> rfl)))
  | (refine st_nil ?_)
  | (apply st_a; (case hc => rfl); (case he => (simp only [go_sem, *] <;> rfl)); (case hu => (simp only [updL_nil, updL_cons] <;> rfl)); (case hp => first | trivial | omega))
  | (apply st_m; (case hc => rfl); (case hg => (simp only [go_sem, *] <;> rfl)); (case he => (intro hQz; (try simp only [wantB_t, wantB_f, Bool.and_eq_true, Bool.not_eq_true', Bool.not_true, Bool.not_false, and_true, true_and] at hQz); simp only [go_sem, *] <;> rfl)); (case hp => (intro hQz; (try simp only [wantB_t, wantB_f, Bool.and_eq_true, Bool.not_eq_true', Bool.or_eq_false_iff, decide_eq_true_eq, decide_eq_false_iff_not, beq_iff_eq, beq_eq_false_iff_ne, bne_iff_ne, bne_eq_false_iff_eq, Int.not_lt, Int.not_le, Int.ofNat_lt, Int.ofNat_le] at hQz); first | trivial | omega)))
  | (refine Awp.ret ?_; try simp only [go_sem, *])
  | (refine Awp.skip ?_; try simp only [go_sem, *])
  | refine Awp.block ?_
  | (apply Awp.cond; (case hc => (simp only [go_sem, *] <;> rfl)); all_goals (intro hg; (try simp only [Bool.not_true, Bool.not_false, reduceCtorEq] at hg)))
  | refine Awp.seq ?_)
      exact Lower.bool (by unfold fewB; rw [hn2]; simp)
    ·have hlt' : (decide ((k : Int) < l.length) && decide ((k : Int) < 61)) = false := by simp; omega
     have hn2 := noneBig_end hlt hj
     clear hj
     repeat' (first
  | (apply Awp.sreg; (case hn => (simp only [List.length_cons, List.length_nil, Nat.reduceAdd] <;> rfl)))
  | (refine st_nil ?_)
  | (apply st_a; (case hc => rfl); (case he => (simp only [go_sem, *] <;> rfl)); (case hu => (simp only [updL_nil, updL_cons] <;> rfl)); (case hp => first | trivial))
  | (apply st_m; (case hc => rfl); (case hg => (simp only [go_sem, *] <;> rfl)); (case he => (intro hQz; (try simp only [wantB_t, wantB_f, Bool.and_eq_true, Bool.not_eq_true', Bool.not_true, Bool.not_false, and_true, true_and] at hQz); simp only [go_sem, *] <;> rfl)); (case hp => (intro hQz; (try simp only [wantB_t, wantB_f, Bool.and_eq_true, Bool.not_eq_true', Bool.or_eq_false_iff, decide_eq_true_eq, decide_eq_false_iff_not, beq_iff_eq, beq_eq_false_iff_ne, bne_iff_ne, bne_eq_false_iff_eq, Int.not_lt, Int.not_le, Int.ofNat_lt, Int.ofNat_le] at hQz); first | trivial)))
  | (refine Awp.ret ?_; try simp only [go_sem, *])
  | (refine Awp.exit ?_; try simp only [go_sem, *])
  | (apply Awp.cond; (case hc => (simp only [go_sem, *] <;> rfl)); all_goals (intro hg; (try simp only [Bool.not_true, Bool.not_false, reduceCtorEq] at hg)))
  | refine Awp.seq ?_)
     exact Lower.bool (by unfold fewB; rw [hn, hn2]; simp)
end Go.Proofs
namespace Go.Proofs
open Go Go.Ab Go.RowKit
set_option maxHeartbeats 1000000
def comp0 (l : List Int) : List Int := Lib.compact l ++ List.replicate (l.length - (Lib.compact l).length) 0
theorem comp0_len (l : List Int) : (comp0 l).length = l.length := by have := compact_len l; simp [comp0]; omega
theorem compact_pre (l : List Int) (b nm : Nat) (e : TypeId) (hl : l.length < 1000000) : CallC Tryz.prog 78 [.own b] [(b, .row (ints l) 1 e)] nm (.pre b (Lib.compact l).length) [(b, some (.row (ints (comp0 l)) 1 e))] := by
 refine ⟨⟨_, Tryz.func78, by kernel_rfl, by kernel_rfl⟩, fun prov β w cs hn hb hi hv => ?_⟩
 have hlk : ∀ n, updL (listH [(b, Blk.row (ints l) 1 e)]) [(b, some (Blk.row (ints (comp0 l)) 1 e))] n = if n = b then some (.row (ints (comp0 l)) 1 e) else none := by
  intro n; simp only [updL, upd, listH]; split <;> simp
 have hB := hb b (.row (ints l) 1 e) (by simp [listH])
 obtain ⟨xs, hf⟩ := hB
 obtain rfl := fits_ints hf
 obtain ⟨hlen, hv⟩ := hv
 match cs, hlen with
 | [c], _ =>
 have h1 := hv 0 (by simp)
 simp only [av_zero, cv, List.getD_cons_zero] at h1
 obtain ⟨rfl, _⟩ := h1.own_inv
 have hcl : (Lib.compact l).length ≤ l.length := compact_len l
 have tail : ∀ w' a n0 cap cap', β b = .slice a n0 cap → (Lib.compact l).length ≤ cap' → cap' ≤ maxLen → w.grownBy w' (blkOf (β b)) → RowRep w' e 1 (β b) (comp0 l).length ((comp0 l).map (Value.int .i64)) →
   ∃ c β', Ending.returned (Value.slice a (Lib.compact l).length cap') = .returned c ∧ w'.os = w.os ∧ w'.tape = w.tape ∧ w'.output = w.output ∧ w.heap.size ≤ w'.heap.size ∧ Grows β β' ∧ (∀ n, n ≠ nm → β' n = β n) ∧
   (∀ g, g < w.heap.size → (∀ n b', listH [(b, Blk.row (ints l) 1 e)] n = some b' → n ∈ [(b, some (Blk.row (ints (comp0 l)) 1 e))].map (·.1) → blkOf (β n) ≠ some g) → w'.heap[g]? = w.heap[g]?) ∧
   SimV (stb (fun g => prov g ∨ w.heap.size ≤ g) w' β' (updL (listH [(b, Blk.row (ints l) 1 e)]) [(b, some (Blk.row (ints (comp0 l)) 1 e))])) β' w' (.pre b (Lib.compact l).length) c ∧
   (∀ n b', updL (listH [(b, Blk.row (ints l) 1 e)]) [(b, some (Blk.row (ints (comp0 l)) 1 e))] n = some b' → n ∈ [(b, some (Blk.row (ints (comp0 l)) 1 e))].map (·.1) → BlkRep (stb (fun g => prov g ∨ w.heap.size ≤ g) w' β' (updL (listH [(b, Blk.row (ints l) 1 e)]) [(b, some (Blk.row (ints (comp0 l)) 1 e))])) β' w' b' (β' n) ∧
    ∀ g, blkOf (β' n) = some g → w.heap.size ≤ g ∨ ∃ m b', listH [(b, Blk.row (ints l) 1 e)] m = some b' ∧ m ∈ [(b, some (Blk.row (ints (comp0 l)) 1 e))].map (·.1) ∧ blkOf (β m) = some g) ∧
   Inj β' (updL (listH [(b, Blk.row (ints l) 1 e)]) [(b, some (Blk.row (ints (comp0 l)) 1 e))]) := by
  intro w' a n0 cap cap' hβb hk1 hk2 hg hr
  refine ⟨_, β, rfl, hg.os, hg.tape, hg.output, hg.size, Grows.refl _, fun _ _ => rfl, fun g hgl hno => ?_, .pre b _ hβb hk1 hk2, fun n b' hb' _ => ?_, ?_⟩
  ·exact hg.block g hgl (fun e' => hno b (.row (ints l) 1 e) (by simp [listH]) (by simp) e'.symm)
  ·rw [hlk] at hb'
   split at hb'
   ·rename_i hnb; subst hnb
    simp at hb'; subst hb'
    exact ⟨⟨_, ints_fits hr⟩, fun g hgb => .inr ⟨n, .row (ints l) 1 e, by simp [listH], by simp, hgb⟩⟩
   ·cases hb'
  ·intro n m b1 b2 g h1 h2 _ _
   rw [hlk] at h1 h2
   split at h1
   ·split at h2
    ·simp_all
    ·cases h2
   ·cases h1
 rcases hf.row with ⟨a, hc, h0, hx⟩ | ⟨g, cap, hc, h0, hrow⟩
 ·have hnil : l = [] := by rw [ints_len] at h0; exact List.eq_nil_of_length_eq_zero h0
  subst hnil
  rw [hc]
  refine (Tryz.slices_Compact_int_empty a 0 w).mono fun e' w' ⟨he, hw⟩ => ?_
  subst he; subst hw
  exact tail w' a 0 0 0 hc (Nat.zero_le _) (Nat.zero_le _) ⟨rfl, rfl, rfl, Nat.le_refl _, fun _ _ _ => rfl⟩ (.inl ⟨a, hc, rfl, rfl⟩)
 ·rcases hrow.2 with ⟨h', _⟩ | ⟨g', cap', cur, h', _, hg, hn1, hn2, hn3, hn4⟩
  ·rw [hc] at h'; cases h'
  ·rw [hc] at h'
   simp only [Value.slice.injEq, Option.some.injEq, Addr.mk.injEq, and_true, true_and] at h'
   obtain ⟨rfl, rfl⟩ := h'
   rw [ints_len] at hn1 hn4 hc
   rw [Nat.mul_one] at hn4
   rw [hc]
   refine (Tryz.slices_Compact_int g 0 cap l w (holds_of_blockI hg hn4) (by omega) hn1).mono fun e' w' ⟨he, q, hw⟩ => ?_
   subst he
   have hw2 : w' = Sort.grow (Sort.putRow (Value.int .i64) (Sort.ahead w q) g 0 (comp0 l).toArray) #[] := by rw [hw, Sort.grow_empty]; rfl
   subst hw2
   have hbk : blkOf (β b) = some g := by rw [hc]; simp [blkOf]; omega
   refine tail _ _ _ _ cap hc (by omega) hn2 (by rw [hbk]; exact grownBy_sortedI _) (.inr ⟨g, cap, by rw [hc, comp0_len], h0, ?_⟩)
   have := ownsRow_sortedI (w := w) (base := 0) (g := g) (cap := cap) (n := q) (e := e) (os := #[]) (cur := cur) (ss := l) (ts := comp0 l) (comp0_len l) (Nat.zero_le _) hg hn1 hn2 hn3
   rw [hc, comp0_len]
   exact this
end Go.Proofs
namespace Go.Ab
open Go
theorem asc_ext : ∀ {l m : List Int}, l.Pairwise (· < ·) → m.Pairwise (· < ·) → (∀ x, x ∈ l ↔ x ∈ m) → l = m
  | [], [], _, _, _ => rfl
  | [], b :: m, _, _, h => by have := (h b).2 (List.mem_cons.2 (.inl rfl)); simp at this
  | a :: l, [], _, _, h => by have := (h a).1 (List.mem_cons.2 (.inl rfl)); simp at this
  | a :: l, b :: m, hl, hm, h => by
    rw [List.pairwise_cons] at hl hm
    have hab : a = b := by
      rcases List.mem_cons.1 ((h a).1 (List.mem_cons.2 (.inl rfl))) with e | e
      · exact e
      · rcases List.mem_cons.1 ((h b).2 (List.mem_cons.2 (.inl rfl))) with e' | e'
        · exact e'.symm
        · have := hl.1 b e'; have := hm.1 a e; omega
    subst hab
    congr 1
    refine asc_ext hl.2 hm.2 fun x => ⟨fun hx => ?_, fun hx => ?_⟩
    · rcases List.mem_cons.1 ((h x).1 (List.mem_cons.2 (.inr hx))) with e | e
      · have := hl.1 x hx; omega
      · exact e
    · rcases List.mem_cons.1 ((h x).2 (List.mem_cons.2 (.inr hx))) with e | e
      · have := hm.1 x hx; omega
      · exact e
theorem compact_asc (l : List Int) (hs : l.Pairwise (· ≤ ·)) : ∀ m, m ≤ l.length →
    (Lib.compactUpTo l.toArray m).Pairwise (· < ·) ∧ ∀ x, x ∈ Lib.compactUpTo l.toArray m ↔ ∃ j, j < m ∧ l.toArray[j]! = x := by
  have le : ∀ i j, i ≤ j → j < l.length → l.toArray[i]! ≤ l.toArray[j]! := by
    intro i j hij hj
    have hi : i < l.length := by omega
    have e1 : l.toArray[i]! = l[i] := by simp [getElem!_pos, hi]
    have e2 : l.toArray[j]! = l[j] := by simp [getElem!_pos, hj]
    rw [e1, e2]
    rcases Nat.lt_or_ge i j with h | h
    · exact List.pairwise_iff_getElem.1 hs i j hi hj h
    · obtain rfl : i = j := by omega
      exact Int.le_refl _
  intro m
  induction m with
  | zero => intro _; simp [Lib.compactUpTo]
  | succ m ih =>
    intro hm
    obtain ⟨h1, h2⟩ := ih (by omega)
    rw [Lib.compactUpTo_succ]
    by_cases hk : Lib.keeps l.toArray m = true
    · rw [if_pos hk]
      refine ⟨?_, fun x => ?_⟩
      · rw [List.pairwise_append]
        refine ⟨h1, by simp, fun x hx y hy => ?_⟩
        obtain rfl : y = l.toArray[m]! := by simpa using hy
        obtain ⟨j, hj, rfl⟩ := (h2 x).1 hx
        simp only [Lib.keeps, decide_eq_true_eq] at hk
        rcases hk with hk | hk
        · omega
        · have a1 := le j (m - 1) (by omega) (by omega)
          have a2 := le (m - 1) m (by omega) (by omega)
          omega
      · rw [List.mem_append, h2]
        constructor
        · rintro (⟨j, hj, e⟩ | h)
          · exact ⟨j, by omega, e⟩
          · exact ⟨m, by omega, by simpa using (List.mem_singleton.1 h).symm⟩
        · rintro ⟨j, hj, e⟩
          rcases Nat.lt_or_ge j m with h | h
          · exact .inl ⟨j, h, e⟩
          · obtain rfl : j = m := by omega
            exact .inr (by simp [← e])
    · rw [if_neg hk, List.append_nil]
      refine ⟨h1, fun x => ?_⟩
      rw [h2]
      constructor
      · rintro ⟨j, hj, e⟩; exact ⟨j, by omega, e⟩
      · rintro ⟨j, hj, e⟩
        rcases Nat.lt_or_ge j m with h | h
        · exact ⟨j, h, e⟩
        · obtain rfl : j = m := by omega
          simp only [Lib.keeps, decide_eq_true_eq, not_or, Decidable.not_not] at hk
          exact ⟨j - 1, by omega, by rw [← hk.2, e]⟩
theorem compact_sorted (l : List Int) (hs : l.Pairwise (· ≤ ·)) : (Lib.compact l).Pairwise (· < ·) ∧ ∀ x, x ∈ Lib.compact l ↔ x ∈ l := by
  obtain ⟨h1, h2⟩ := compact_asc l hs l.length (Nat.le_refl _)
  refine ⟨h1, fun x => ?_⟩
  unfold Lib.compact
  rw [h2]
  constructor
  · rintro ⟨j, hj, rfl⟩
    simp [getElem!_pos, hj]
  · intro hx
    obtain ⟨j, hj, e⟩ := List.getElem_of_mem hx
    exact ⟨j, hj, by simp [getElem!_pos, hj, e]⟩
def sortZ (l : List Int) : List Int := l.mergeSort fun x y => decide (x ≤ y)
theorem sortZ_asc (l : List Int) : (sortZ l).Pairwise (· ≤ ·) := by
  have := List.pairwise_mergeSort (le := fun x y : Int => decide (x ≤ y)) (by intro a b c; simp; omega) (by intro a b; simp; omega) l
  simpa [sortZ] using this
theorem mem_sortZ (l : List Int) (x : Int) : x ∈ sortZ l ↔ x ∈ l := (List.mergeSort_perm l _).mem_iff
def leastZ (a : Int) (l : List Int) : Int := l.foldl min a
def takeZ : Nat → List Int → List Int
  | 0, _ => []
  | _ + 1, [] => []
  | k + 1, a :: l => leastZ a (a :: l) :: takeZ k ((a :: l).filter fun x => x != leastZ a (a :: l))
end Go.Ab
namespace Go.Ab
open Go
theorem arr_bang (l : List Int) (m : Nat) (h : m < l.length) : l.toArray[m]! = l[m] := by simp [getElem!_pos, h]
theorem compactUpTo_pre (c t : List Int) (hc : c.Pairwise (· < ·)) : ∀ m, m ≤ (c ++ t).length → ∃ u, Lib.compactUpTo (c ++ t).toArray m = c.take m ++ u ∧ ∀ x ∈ u, x ∈ t := by
  intro m
  induction m with
  | zero => intro _; exact ⟨[], by simp [Lib.compactUpTo], by simp⟩
  | succ m ih =>
    intro hm
    obtain ⟨u, e, hu⟩ := ih (by omega)
    rw [Lib.compactUpTo_succ, e]
    have hml : m < (c ++ t).length := by omega
    have dm : (c ++ t).toArray[m]! = (c ++ t)[m] := arr_bang _ m hml
    by_cases hmc : m < c.length
    · have hu0 : u = [] ∨ True := .inr trivial
      have hcm : (c ++ t)[m] = c[m] := List.getElem_append_left hmc
      have hk : Lib.keeps (c ++ t).toArray m = true := by
        by_cases h0 : m = 0
        · simp [Lib.keeps, h0]
        · refine Lib.keeps_pos ?_
          have hm1 : m - 1 < (c ++ t).length := by omega
          have dm1 : (c ++ t).toArray[m - 1]! = (c ++ t)[m - 1] := arr_bang _ _ hm1
          have hcm1 : (c ++ t)[m - 1] = c[m - 1] := List.getElem_append_left (by omega)
          rw [dm, dm1, hcm, hcm1]
          have := List.pairwise_iff_getElem.1 hc (m - 1) m (by omega) hmc (by omega)
          omega
      have hlen : (Lib.compactUpTo (c ++ t).toArray m).length ≤ m := by
        unfold Lib.compactUpTo
        rw [List.length_map]
        exact Nat.le_trans (List.length_filter_le _ _) (by simp)
      have hu1 : u = [] := by
        rw [e, List.length_append, List.length_take] at hlen
        exact List.eq_nil_of_length_eq_zero (by omega)
      subst hu1
      refine ⟨[], ?_, by simp⟩
      rw [if_pos hk, dm, hcm, List.append_nil, List.append_nil, List.take_add_one, List.getElem?_eq_getElem hmc]
      rfl
    · have e1 : c.take m = c := List.take_of_length_le (by omega)
      have e2 : c.take (m + 1) = c := List.take_of_length_le (by omega)
      rw [e1, e2]
      have hct : (c ++ t)[m] ∈ t := by
        rw [List.getElem_append_right (by omega)]
        exact List.getElem_mem _
      refine ⟨u ++ (if Lib.keeps (c ++ t).toArray m = true then [(c ++ t).toArray[m]!] else []), by rw [List.append_assoc], fun x hx => ?_⟩
      rcases List.mem_append.1 hx with h | h
      · exact hu x h
      · split at h
        · rw [List.mem_singleton.1 h, dm]; exact hct
        · simp at h
theorem compact_pre_of (c t : List Int) (hc : c.Pairwise (· < ·)) : ∃ u, Lib.compact (c ++ t) = c ++ u ∧ ∀ x ∈ u, x ∈ t := by
  obtain ⟨u, e, hu⟩ := compactUpTo_pre c t hc (c ++ t).length (Nat.le_refl _)
  refine ⟨u, ?_, hu⟩
  unfold Lib.compact
  rw [e, List.take_of_length_le (by simp)]
theorem find_first {P : Int → Bool} {c : List Int} {k : Nat} (hk : k < c.length) (hp : P (c.getD k 0) = true) (hj : ∀ j, j < k → P (c.getD j 0) = false) : c.find? P = some (c.getD k 0) := by
  rw [List.find?_eq_some_iff_getElem]
  refine ⟨hp, k, hk, by simp [List.getD_eq_getElem?_getD, hk], fun j hjk => ?_⟩
  have hjl : j < c.length := by omega
  have := hj j hjk
  rw [List.getD_eq_getElem?_getD, List.getElem?_eq_getElem hjl, Option.getD_some] at this
  simp [this]
theorem find_no {P : Int → Bool} {c : List Int} (hj : ∀ j, j < c.length → P (c.getD j 0) = false) : c.find? P = none := by
  rw [List.find?_eq_none]
  intro x hx
  obtain ⟨j, hjl, rfl⟩ := List.getElem_of_mem hx
  have := hj j hjl
  rw [List.getD_eq_getElem?_getD, List.getElem?_eq_getElem hjl, Option.getD_some] at this
  simp [this]
theorem getD_app {c u : List Int} {j : Nat} (h : j < c.length) : (c ++ u).getD j 0 = c.getD j 0 := by
  simp [List.getD_eq_getElem?_getD, List.getElem?_append_left h]
theorem inner_hit {P : Int → Bool} {C c u : List Int} {k : Nat} (hC : C = c ++ u) (hu : ∀ x ∈ u, x = 0) (h0 : (0 : Int) ∈ c) (hk : k < C.length) (hp : P (C.getD k 0) = true) (hj : ∀ j, j < k → P (C.getD j 0) = false) : c.find? P = some (C.getD k 0) := by
  subst hC
  by_cases hkc : k < c.length
  · rw [getD_app hkc] at hp ⊢
    exact find_first hkc hp fun j hjk => by rw [← getD_app (u := u) (by omega)]; exact hj j hjk
  · exfalso
    have hz : (c ++ u).getD k 0 = 0 := by
      rw [List.getD_eq_getElem?_getD, List.getElem?_eq_getElem hk, Option.getD_some, List.getElem_append_right (by omega)]
      exact hu _ (List.getElem_mem _)
    rw [hz] at hp
    obtain ⟨i, hi, e⟩ := List.getElem_of_mem h0
    have := hj i (by omega)
    rw [getD_app hi, List.getD_eq_getElem?_getD, List.getElem?_eq_getElem hi, Option.getD_some, e, hp] at this
    cases this
theorem inner_none {P : Int → Bool} {C c u : List Int} {k : Nat} (hC : C = c ++ u) (hk : C.length ≤ k) (hj : ∀ j, j < k → P (C.getD j 0) = false) : c.find? P = none := by
  subst hC
  exact find_no fun j hjl => by rw [← getD_app (u := u) hjl]; exact hj j (by simp at hk; omega)
def scanE (P : Int → Int → Bool) (lw c : List Int) : Option (Int × Int) := lw.findSome? fun y => (c.find? fun x => P x y).map fun x => (x, y)
theorem scan_hit {P : Int → Int → Bool} {lw c : List Int} {i : Nat} {o : Int} (hi : i < lw.length) (hj : ∀ j, j < i → (c.find? fun x => P x (lw.getD j 0)) = none) (h : (c.find? fun x => P x (lw.getD i 0)) = some o) : scanE P lw c = some (o, lw.getD i 0) := by
  have e : lw = lw.take i ++ lw.getD i 0 :: lw.drop (i + 1) := by
    have h1 : lw.getD i 0 = lw[i] := by simp [List.getD_eq_getElem?_getD, hi]
    rw [h1, List.getElem_cons_drop, List.take_append_drop]
  have hn : (lw.take i).findSome? (fun y => (c.find? fun x => P x y).map fun x => (x, y)) = none := by
    rw [List.findSome?_eq_none_iff]
    intro y hy
    obtain ⟨j, hjl, rfl⟩ := List.getElem_of_mem hy
    have hji : j < i := by simp at hjl; omega
    have := hj j hji
    have h2 : lw.getD j 0 = (lw.take i)[j] := by
      have : j < lw.length := by omega
      simp [List.getD_eq_getElem?_getD, this]
    rw [h2] at this
    rw [this]; rfl
  unfold scanE
  rw [e, List.findSome?_append, hn, Option.none_or, List.findSome?_cons]
  rw [← e, h]
  rfl
theorem scan_no {P : Int → Int → Bool} {lw c : List Int} {i : Nat} (hi : lw.length ≤ i) (hj : ∀ j, j < i → (c.find? fun x => P x (lw.getD j 0)) = none) : scanE P lw c = none := by
  unfold scanE
  rw [List.findSome?_eq_none_iff]
  intro y hy
  obtain ⟨j, hjl, rfl⟩ := List.getElem_of_mem hy
  have := hj j (by omega)
  rw [List.getD_eq_getElem?_getD, List.getElem?_eq_getElem hjl, Option.getD_some] at this
  rw [this]; rfl
end Go.Ab
namespace Go.Proofs
open Go Go.Ab
set_option maxHeartbeats 4000000
set_option maxRecDepth 100000
attribute [local irreducible] Awp aops aopsL Go.Ab.Pure PureOwn
def nearB (x y : Sty) : Bool := (y.bay.toList == x.bay.toList) && decide (x.a < y.b) && decide (y.a < x.b)
def nearL (l : List Sty) (x : Sty) : List Sty := l.filter (nearB x)
def lowL (l : List Sty) (x : Sty) : List Int := 0 :: (nearL l x).map fun y => IntKind.i64.wrap (y.y + y.wid)
def leftL (l : List Sty) (x : Sty) : List Int := 0 :: (nearL l x).map fun y => IntKind.i64.wrap (y.x + y.len)
theorem nearL_step (l : List Sty) (x : Sty) (i : Nat) (h : i < l.length) : nearL (l.take (i + 1)) x = nearL (l.take i) x ++ (if nearB x (l.getD i zeroSty) = true then [l.getD i zeroSty] else []) := by
 rw [take_snoc l zeroSty i h]
 unfold nearL
 rw [List.filter_append]
 congr 1
 by_cases hp : nearB x (l.getD i zeroSty) = true
 ·rw [if_pos hp, List.filter_cons_of_pos hp]; rfl
 ·rw [if_neg hp, List.filter_cons_of_neg hp]; rfl
theorem nearL_len (l : List Sty) (x : Sty) : (nearL l x).length ≤ l.length := List.length_filter_le _ _
def spS (bs : List By) (l : List Sty) (x : Sty) (near : List Sty) (low left : List Int) (i : Nat) : AState :=
 mkS [(3, .bp 0 0), (5, .bp 1 0), (6, .bp 6 0), (8, .bp 2 0), (9, .own 4), (10, .own 5), (20, .sl (stys l)), (21, .v (.int .i64 l.length)), (22, .v (.int .i64 i))]
  [(0, .box [.sl (bys bs)]), (1, .box x.cells), (2, .box [.own 3]), (3, .row (stys near) 8 48), (4, .row (ints low) 1 3), (5, .row (ints left) 1 3), (6, .box [.v (.string ⟨⟨[]⟩⟩), .v (.string ⟨⟨[]⟩⟩), .v (.int .i64 0), .v (.int .i64 0), .v (.int .i64 0), .v (.int .i64 0), .v (.int .i64 0), .v (.int .i64 0)])]
def placeB (bs : List By) (l : List Sty) (x : Sty) (X Y : Int) : Bool := stayE bs (nearL l x) (x.at_ X Y) == 0
def spotE (bs : List By) (l : List Sty) (x : Sty) : Sty × Bool := match scanE (placeB bs l x) (Lib.compact (sortI (lowL l x))) (Lib.compact (sortI (leftL l x))) with
 | some (X, Y) => (x.at_ X Y, true)
 | none => (zeroSty, false)
def RI (c R : List Int) : Prop := R.length < 1000000 ∧ ∃ u, Lib.compact R = c ++ u ∧ ∀ z ∈ u, z = 0
theorem RI_next {c R : List Int} (hc : c.Pairwise (· < ·)) (h : RI c R) : RI c (comp0 R) := by
 obtain ⟨hl, u, e, hu⟩ := h
 refine ⟨by rw [comp0_len]; exact hl, ?_⟩
 unfold comp0
 rw [e, List.append_assoc]
 obtain ⟨u', e', hu'⟩ := compact_pre_of c (u ++ List.replicate (R.length - (c ++ u).length) 0) hc
 refine ⟨u', e', fun z hz => ?_⟩
 rcases List.mem_append.1 (hu' z hz) with h | h
 ·exact hu z h
 ·exact (List.mem_replicate.1 h).2
theorem left_asc (l : List Sty) (x : Sty) : (Lib.compact (sortI (leftL l x))).Pairwise (· < ·) ∧ (0 : Int) ∈ Lib.compact (sortI (leftL l x)) := by
 have h := compact_sorted (sortZ (leftL l x)) (sortZ_asc _)
 refine ⟨h.1, (h.2 0).2 ((mem_sortZ _ _).2 (by simp [leftL]))⟩
theorem comp0_at (l : List Int) (j : Nat) (h : j < (Lib.compact l).length) : (comp0 l).getD j 0 = (Lib.compact l).getD j 0 := getD_app h
def boxZ : List AV := [.v (.string ⟨⟨[]⟩⟩), .v (.string ⟨⟨[]⟩⟩), .v (.int .i64 0), .v (.int .i64 0), .v (.int .i64 0), .v (.int .i64 0), .v (.int .i64 0), .v (.int .i64 0)]
def sqS (bs : List By) (l : List Sty) (x : Sty) (q : Nat × (Int × Int) × List Int) : AState :=
 mkS [(3, .bp 0 0), (5, .bp 1 0), (6, .bp 6 0), (8, .bp 2 0), (10, .own 5), (13, .fn 79 [.bp 1 0, .bp 0 0, .bp 2 0]), (78, .pre 4 (Lib.compact (sortI (lowL l x))).length), (79, .v (.int .i64 (Lib.compact (sortI (lowL l x))).length)), (80, .v (.int .i64 q.1))]
  [(0, .box [.sl (bys bs)]), (1, .box (x.at_ q.2.1.1 q.2.1.2).cells), (2, .box [.own 3]), (3, .row (stys (nearL l x)) 8 48), (4, .row (ints (comp0 (sortI (lowL l x)))) 1 3), (5, .row (ints q.2.2) 1 3), (6, .box boxZ)]
def siS (bs : List By) (l : List Sty) (x : Sty) (j : Nat) (R : List Int) (y : Int) (q : Nat × (Int × Int)) : AState :=
 mkS [(3, .bp 0 0), (5, .bp 1 0), (6, .bp 6 0), (8, .bp 2 0), (10, .own 5), (13, .fn 79 [.bp 1 0, .bp 0 0, .bp 2 0]), (15, .v (.int .i64 y)), (78, .pre 4 (Lib.compact (sortI (lowL l x))).length), (79, .v (.int .i64 (Lib.compact (sortI (lowL l x))).length)), (80, .v (.int .i64 j)), (85, .pre 5 (Lib.compact R).length), (86, .v (.int .i64 (Lib.compact R).length)), (87, .v (.int .i64 q.1))]
  [(0, .box [.sl (bys bs)]), (1, .box (x.at_ q.2.1 q.2.2).cells), (2, .box [.own 3]), (3, .row (stys (nearL l x)) 8 48), (4, .row (ints (comp0 (sortI (lowL l x)))) 1 3), (5, .row (ints (comp0 R)) 1 3), (6, .box boxZ)]
theorem spot_ok (bs : List By) (l : List Sty) (x : Sty) (hb : bs.length < 100000) (hl : l.length < 90000) : Pure Tryz.prog 54 [.sl (bys bs), .sl (stys l), x.av] (.tup [(spotE bs l x).1.av, .v (.bool (spotE bs l x).2)]) := by
 refine fn_pure Tryz.F54 (Nat.le_of_ble_eq_true rfl) ?_; unfold Tryz.ac54 AR AM AO
 repeat' (first
  | (apply Awp.sreg; (case hn => (simp only [List.length_cons, List.length_nil, Nat.reduceAdd] <;> rfl)))
  | (refine st_nil ?_)
  | (apply st_a; (case hc => rfl); (case he => (simp only [go_sem, *] <;> rfl)); (case hu => (simp only [updL_nil, updL_cons] <;> rfl)); (case hp => first | trivial | (simp; done)))
  | refine Awp.block ?_
  | refine Awp.seq ?_)
 refine Awp.loop (fun i : Nat => i ≤ l.length) 200 (fun i => spS bs l x (nearL (l.take i) x) (lowL (l.take i) x) (leftL (l.take i) x) i) (fun i => l.length - i) 0 (by omega) ?_ ?_
 ·refine Ghost.trans (Ghost.nameBox 4 8 48 rfl (by decide)) ?_
  unfold spS
  (apply Ghost.mk [(2, 4), (3, 12), (4, 5), (5, 6), (6, 2)] []; (case hdead => rfl); (case hinj => rfl); (case hV => (simp only [go_sem, *]) <;> (repeat' (first | refine And.intro ?_ ?_ | exact View.int (by first | rfl | omega | (simp; done) | (rw [wrap_i64] <;> (try simp only [Int.natCast_add]) <;> omega) | (simp [*]; done)) | exact .bp rfl (by decide) | exact .own rfl (by decide)))); (case hB => (simp only [go_sem, *]) <;> (repeat' (first | refine And.intro ?_ ?_ | exact ⟨_, rfl, BView.boxF rfl⟩ | exact ⟨_, rfl, BView.own1 rfl (by decide)⟩ | exact ⟨_, rfl, .rowE (by first | rfl | omega | (simp; done) | (rw [wrap_i64] <;> (try simp only [Int.natCast_add]) <;> omega) | (simp [*]; done))⟩))))
 ·intro i hi
  by_cases hlt : i < l.length
  ·have hlt' : (i : Int) < l.length := by omega
   have hat := stys_at l i hlt
   have hz : ((l.getD i zeroSty).cells).length = 8 := rfl
   have hst := nearL_step l x i hlt
   have hln := nearL_len (l.take i) x
   have htl : (l.take i).length = i := List.length_take_of_le hi
   have h1 := stys_one (nearL (l.take i) x)
   have h2 : (lowL (l.take i) x).length = (nearL (l.take i) x).length + 1 := by simp [lowL]
   have h3 : (leftL (l.take i) x).length = (nearL (l.take i) x).length + 1 := by simp [leftL]
   cases hB : nearB x (l.getD i zeroSty)
   ·rw [hB] at hst
    simp only [Bool.false_eq_true, if_false, List.append_nil] at hst
    have hB' := hB
    unfold nearB at hB'
    have e2 : lowL (l.take (i + 1)) x = lowL (l.take i) x := by unfold lowL; rw [hst]
    have e3 : leftL (l.take (i + 1)) x = leftL (l.take i) x := by unfold leftL; rw [hst]
    unfold spS
    repeat' (first
  | (apply Awp.sreg; (case hn => (simp only [List.length_cons, List.length_nil, Nat.reduceAdd] <;> rfl)))
  | (refine st_nil ?_)
  | (apply st_a; (case hc => rfl); (case he => (simp only [go_sem, *] <;> rfl)); (case hu => (simp only [updL_nil, updL_cons] <;> rfl)); (case hp => first | trivial | omega))
  | (apply st_m; (case hc => rfl); (case hg => (simp only [go_sem, *] <;> rfl)); (case he => (intro hQz; (try simp only [wantB_t, wantB_f, Bool.and_eq_true, Bool.not_eq_true', Bool.not_true, Bool.not_false, and_true, true_and] at hQz); simp only [go_sem, *] <;> rfl)); (case hp => (intro hQz; (try simp only [wantB_t, wantB_f, Bool.and_eq_true, Bool.not_eq_true', Bool.or_eq_false_iff, decide_eq_true_eq, decide_eq_false_iff_not, beq_iff_eq, beq_eq_false_iff_ne, bne_iff_ne, bne_eq_false_iff_eq, Int.not_lt, Int.not_le, Int.ofNat_lt, Int.ofNat_le] at hQz); first | trivial)))
  | (apply Awp.reg; (case hn => (simp only [List.length_cons, List.length_nil, Nat.reduceAdd] <;> rfl)))
  | (refine Awp.skip ?_; try simp only [go_sem, *])
  | refine Awp.block ?_
  | (apply Awp.cond; (case hc => (simp only [go_sem, *] <;> rfl)); all_goals (intro hg; (try simp only [Bool.not_true, Bool.not_false, reduceCtorEq] at hg)))
  | refine Awp.seq ?_)
    refine ⟨i + 1, by omega, by omega, ?_⟩
    (apply Ghost.mk [] []; (case hdead => rfl); (case hinj => rfl); (case hV => (simp only [go_sem, *]) <;> (repeat' (first | refine And.intro ?_ ?_ | exact View.int (by first | rfl | omega | (simp; done) | (rw [wrap_i64] <;> (try simp only [Int.natCast_add]) <;> omega) | (simp [*]; done)) | exact .bp rfl (by decide) | exact .own rfl (by decide)))); (case hB => (simp only [go_sem, *]) <;> (repeat' (first | refine And.intro ?_ ?_ | exact ⟨_, rfl, BView.boxF rfl⟩ | exact ⟨_, rfl, BView.own1 rfl (by decide)⟩ | exact ⟨_, rfl, .rowE (by first | rfl | omega | (simp; done) | (rw [wrap_i64] <;> (try simp only [Int.natCast_add]) <;> omega) | (simp [*]; done))⟩))))
   ·rw [hB] at hst
    simp only [if_true] at hst
    have hB' := hB
    unfold nearB at hB'
    have e2 : lowL (l.take (i + 1)) x = lowL (l.take i) x ++ [IntKind.i64.wrap ((l.getD i zeroSty).y + (l.getD i zeroSty).wid)] := by unfold lowL; rw [hst]; simp
    have e3 : leftL (l.take (i + 1)) x = leftL (l.take i) x ++ [IntKind.i64.wrap ((l.getD i zeroSty).x + (l.getD i zeroSty).len)] := by unfold leftL; rw [hst]; simp
    unfold spS
    repeat' (first
  | (apply Awp.sreg; (case hn => (simp only [List.length_cons, List.length_nil, Nat.reduceAdd] <;> rfl)))
  | (refine st_nil ?_)
  | (apply st_a; (case hc => rfl); (case he => (simp only [go_sem, *] <;> rfl)); (case hu => (simp only [updL_nil, updL_cons] <;> rfl)); (case hp => first | trivial | omega | (simp; done) | (simp; omega)))
  | (apply st_m; (case hc => rfl); (case hg => (simp only [go_sem, *] <;> rfl)); (case he => (intro hQz; (try simp only [wantB_t, wantB_f, Bool.and_eq_true, Bool.not_eq_true', Bool.not_true, Bool.not_false, and_true, true_and] at hQz); simp only [go_sem, *] <;> rfl)); (case hp => (intro hQz; (try simp only [wantB_t, wantB_f, Bool.and_eq_true, Bool.not_eq_true', Bool.or_eq_false_iff, decide_eq_true_eq, decide_eq_false_iff_not, beq_iff_eq, beq_eq_false_iff_ne, bne_iff_ne, bne_eq_false_iff_eq, Int.not_lt, Int.not_le, Int.ofNat_lt, Int.ofNat_le] at hQz); first | trivial)))
  | (apply Awp.reg; (case hn => (simp only [List.length_cons, List.length_nil, Nat.reduceAdd] <;> rfl)))
  | (refine Awp.skip ?_; try simp only [go_sem, *])
  | refine Awp.block ?_
  | (apply Awp.cond; (case hc => (simp only [go_sem, *] <;> rfl)); all_goals (intro hg; (try simp only [Bool.not_true, Bool.not_false, reduceCtorEq] at hg)))
  | refine Awp.seq ?_
  | (refine Awp.draw ?_)
  | (apply sl_a; (case hc => rfl); (case he => (simp only [go_sem, *] <;> rfl)); (case hu => (simp only [updL_nil, updL_cons] <;> rfl)); (case hl => (simp only [List.map_cons, List.map_nil] <;> rfl)); (case hp => first | trivial | (simp; done) | (simp; omega)))
  | (refine sl_nil (And.intro (by first | exact drawOk_of (by decide +kernel) | (simp only [List.map_cons, List.map_nil]; exact drawOk_of (by decide +kernel)) | decide) ?_)))
    refine ⟨i + 1, by omega, by omega, ?_⟩
    (apply Ghost.mk [(3, 231), (4, 241), (5, 250)] []; (case hdead => rfl); (case hinj => rfl); (case hV => (simp only [go_sem, *]) <;> (repeat' (first | refine And.intro ?_ ?_ | exact View.int (by first | rfl | exact (stys_snoc _ _) | exact (ints_snoc _ _) | omega | (simp; done) | (rw [wrap_i64] <;> (try simp only [Int.natCast_add]) <;> omega) | (simp [*]; done)) | exact .bp rfl (by decide) | exact .own rfl (by decide)))); (case hB => (simp only [go_sem, *]) <;> (repeat' (first | refine And.intro ?_ ?_ | exact ⟨_, rfl, BView.boxF rfl⟩ | exact ⟨_, rfl, BView.own1 rfl (by decide)⟩ | exact ⟨_, rfl, .rowE (by first | rfl | exact (stys_snoc _ _) | exact (ints_snoc _ _) | omega | (simp; done) | (rw [wrap_i64] <;> (try simp only [Int.natCast_add]) <;> omega) | (simp [*]; done))⟩))))
  ·have hlt' : ¬ (i : Int) < l.length := by omega
   have e1 : l.take i = l := List.take_of_length_le (by omega)
   have hnl := nearL_len l x
   have hl1 : (lowL l x).length < 1000000 := by simp [lowL]; omega
   have hl2 : (leftL l x).length < 1000000 := by simp [leftL]; omega
   have hs1 : (sortI (lowL l x)).length < 1000000 := by rw [sortI_len]; omega
   unfold spS
   repeat' (first
  | (apply Awp.sreg; (case hn => (simp only [List.length_cons, List.length_nil, Nat.reduceAdd] <;> rfl)))
  | (refine st_nil ?_)
  | (apply st_a; (case hc => rfl); (case he => (simp only [go_sem, *] <;> rfl)); (case hu => (simp only [updL_nil, updL_cons] <;> rfl)); (case hp => first | trivial))
  | (apply st_cc; (case hc => (simp only [go_sem, *] <;> rfl)); (case hcc => exact sort_cc (lowL l x) _ _ 3 hl1); (case hh => (first | (simp only [List.mem_singleton, forall_eq]; first | (simp only [go_sem, *] <;> rfl) | (simp only [go_sem, *]; simp [ints])) | (intro p hp; cases hp; done) | (intro p hp; simp only [List.mem_cons, List.not_mem_nil, or_false] at hp; rcases hp with rfl | rfl | rfl | rfl | rfl | rfl | rfl <;> (simp only [go_sem, *] <;> rfl)) | (intro p hp; simp only [List.mem_cons, List.not_mem_nil, or_false] at hp; rcases hp with rfl | rfl | rfl | rfl <;> (simp only [go_sem, *] <;> rfl)))); (case hu => (first | (simp; done) | decide)); (case hm => (first | decide | (simp; done))); (case hw => (simp only [updL_nil, updL_cons] <;> rfl)))
  | (apply st_cc; (case hc => (simp only [go_sem, *] <;> rfl)); (case hcc => exact sort_cc (leftL l x) _ _ 3 hl2); (case hh => (first | (simp only [List.mem_singleton, forall_eq]; first | (simp only [go_sem, *] <;> rfl) | (simp only [go_sem, *]; simp [ints])) | (intro p hp; cases hp; done) | (intro p hp; simp only [List.mem_cons, List.not_mem_nil, or_false] at hp; rcases hp with rfl | rfl | rfl | rfl | rfl | rfl | rfl <;> (simp only [go_sem, *] <;> rfl)) | (intro p hp; simp only [List.mem_cons, List.not_mem_nil, or_false] at hp; rcases hp with rfl | rfl | rfl | rfl <;> (simp only [go_sem, *] <;> rfl)))); (case hu => (first | (simp; done) | decide)); (case hm => (first | decide | (simp; done))); (case hw => (simp only [updL_nil, updL_cons] <;> rfl)))
  | (apply st_cc; (case hc => (simp only [go_sem, *] <;> rfl)); (case hcc => exact compact_pre (sortI (lowL l x)) _ _ 3 hs1); (case hh => (first | (simp only [List.mem_singleton, forall_eq]; first | (simp only [go_sem, *] <;> rfl) | (simp only [go_sem, *]; simp [ints])) | (intro p hp; cases hp; done) | (intro p hp; simp only [List.mem_cons, List.not_mem_nil, or_false] at hp; rcases hp with rfl | rfl | rfl | rfl | rfl | rfl | rfl <;> (simp only [go_sem, *] <;> rfl)) | (intro p hp; simp only [List.mem_cons, List.not_mem_nil, or_false] at hp; rcases hp with rfl | rfl | rfl | rfl <;> (simp only [go_sem, *] <;> rfl)))); (case hu => (first | (simp; done) | decide)); (case hm => (first | decide | (simp; done))); (case hw => (simp only [updL_nil, updL_cons] <;> rfl)))
  | (refine Awp.exit ?_; try simp only [go_sem, *])
  | refine Awp.block ?_
  | (apply Awp.cond; (case hc => (simp only [go_sem, *] <;> rfl)); all_goals (intro hg; (try simp only [Bool.not_true, Bool.not_false, reduceCtorEq] at hg)))
  | refine Awp.seq ?_)
   have hasc := left_asc l x
   refine Awp.loop (fun q : Nat × (Int × Int) × List Int => q.1 ≤ (Lib.compact (sortI (lowL l x))).length ∧ RI (Lib.compact (sortI (leftL l x))) q.2.2 ∧ ∀ j, j < q.1 → ((Lib.compact (sortI (leftL l x))).find? fun X => placeB bs l x X ((Lib.compact (sortI (lowL l x))).getD j 0)) = none) 300
    (fun q => sqS bs l x q) (fun q => (Lib.compact (sortI (lowL l x))).length - q.1) (0, (x.x, x.y), sortI (leftL l x)) ⟨Nat.zero_le _, ⟨by rw [sortI_len]; exact hl2, [], by simp, by simp⟩, fun j hj => by simp at hj⟩ ?_ ?_
   ·unfold sqS boxZ Sty.at_
    (apply Ghost.mk [] []; (case hdead => rfl); (case hinj => rfl); (case hV => (simp only [go_sem, *]) <;> (repeat' (first | refine And.intro ?_ ?_ | exact View.int (by first | rfl | omega | (simp; done) | (rw [wrap_i64] <;> (try simp only [Int.natCast_add]) <;> omega) | (simp [*]; done)) | exact .bp rfl (by decide) | exact .own rfl (by decide) | exact .pre rfl (by decide) | exact View.fn3 rfl rfl rfl (by decide)))); (case hB => (simp only [go_sem, *]) <;> (repeat' (first | refine And.intro ?_ ?_ | exact ⟨_, rfl, BView.boxF rfl⟩ | exact ⟨_, rfl, BView.own1 rfl (by decide)⟩ | exact ⟨_, rfl, .rowE (by first | rfl | omega | (simp; done) | (rw [wrap_i64] <;> (try simp only [Int.natCast_add]) <;> omega) | (simp [*]; done))⟩))))
   ·clear hi hlt hlt' e1 hl1 hl2 i
    intro ⟨j, ⟨X0, Y0⟩, R⟩ ⟨hj, hR, hn⟩
    dsimp only at hj hR hn
    by_cases hlt : j < (Lib.compact (sortI (lowL l x))).length
    ·have hR0 := hR
     obtain ⟨hRl, u, hu, huz⟩ := hR0
     have hc0 := comp0_at (sortI (lowL l x)) j hlt
     have hcl := comp0_len (sortI (lowL l x))
     have hcl2 := compact_len (sortI (lowL l x))
     have hlt' : (j : Int) < (Lib.compact (sortI (lowL l x))).length := by omega
     have hjc : j < (comp0 (sortI (lowL l x))).length := by omega
     have hle : (Lib.compact (sortI (lowL l x))).length ≤ (comp0 (sortI (lowL l x))).length := by omega
     have hat := ints_at (comp0 (sortI (lowL l x))) j hjc
     rw [hc0] at hat
     have hLB : (Lib.compact (sortI (lowL l x))).length < 1000000 := by omega
     clear hnl hcl hcl2 hs1
     unfold sqS boxZ
     repeat' (first
  | (apply Awp.sreg; (case hn => (simp only [List.length_cons, List.length_nil, Nat.reduceAdd] <;> rfl)))
  | (refine st_nil ?_)
  | (apply st_a; (case hc => rfl); (case he => (simp only [go_sem, *] <;> rfl)); (case hu => (simp only [updL_nil, updL_cons] <;> rfl)); (case hp => first | trivial | omega))
  | (apply st_cc; (case hc => (simp only [go_sem, *] <;> rfl)); (case hcc => exact compact_pre R _ _ 3 hRl); (case hh => (first | (simp only [List.mem_singleton, forall_eq]; first | (simp only [go_sem, *] <;> rfl) | (simp only [go_sem, *]; simp [ints])) | (intro p hp; cases hp; done) | (intro p hp; simp only [List.mem_cons, List.not_mem_nil, or_false] at hp; rcases hp with rfl | rfl | rfl | rfl | rfl | rfl | rfl <;> (simp only [go_sem, *] <;> rfl)) | (intro p hp; simp only [List.mem_cons, List.not_mem_nil, or_false] at hp; rcases hp with rfl | rfl | rfl | rfl <;> (simp only [go_sem, *] <;> rfl)))); (case hu => (first | (simp; done) | decide)); (case hm => (first | decide | (simp; done))); (case hw => (simp only [updL_nil, updL_cons] <;> rfl)))
  | (refine Awp.skip ?_; try simp only [go_sem, *])
  | refine Awp.block ?_
  | (apply Awp.cond; (case hc => (simp only [go_sem, *] <;> rfl)); all_goals (intro hg; (try simp only [Bool.not_true, Bool.not_false, reduceCtorEq] at hg)))
  | refine Awp.seq ?_)
     refine Awp.loop (fun q : Nat × (Int × Int) => q.1 ≤ (Lib.compact R).length ∧ ∀ i, i < q.1 → placeB bs l x ((Lib.compact R).getD i 0) ((Lib.compact (sortI (lowL l x))).getD j 0) = false) 400
      (fun q => siS bs l x j R ((Lib.compact (sortI (lowL l x))).getD j 0) q) (fun q => (Lib.compact R).length - q.1) (0, (X0, Y0)) ⟨Nat.zero_le _, fun i hi => by simp at hi⟩ ?_ ?_
     ·unfold siS boxZ
      (apply Ghost.mk [] []; (case hdead => rfl); (case hinj => rfl); (case hV => (simp only [go_sem, *]) <;> (repeat' (first | refine And.intro ?_ ?_ | exact View.int (by first | rfl | omega | (simp; done) | (rw [wrap_i64] <;> (try simp only [Int.natCast_add]) <;> omega) | (simp [*]; done)) | exact .bp rfl (by decide) | exact .own rfl (by decide) | exact .pre rfl (by decide) | exact View.fn3 rfl rfl rfl (by decide)))); (case hB => (simp only [go_sem, *]) <;> (repeat' (first | refine And.intro ?_ ?_ | exact ⟨_, rfl, BView.boxF rfl⟩ | exact ⟨_, rfl, BView.own1 rfl (by decide)⟩ | exact ⟨_, rfl, .rowE (by first | rfl | omega | (simp; done) | (rw [wrap_i64] <;> (try simp only [Int.natCast_add]) <;> omega) | (simp [*]; done))⟩))))
     ·intro ⟨k, ⟨X1, Y1⟩⟩ ⟨hk, hno⟩
      dsimp only at hk hno
      have hRc := comp0_len R
      have hRc2 := compact_len R
      have hRB : (Lib.compact R).length < 1000000 := by omega
      by_cases hkl : k < (Lib.compact R).length
      ·have hc1 := comp0_at R k hkl
       have hkl' : (k : Int) < (Lib.compact R).length := by omega
       have hkc : k < (comp0 R).length := by omega
       have hle2 : (Lib.compact R).length ≤ (comp0 R).length := by omega
       have hat2 := ints_at (comp0 R) k hkc
       rw [hc1] at hat2
       have hcl : (nearL l x).length < 1000000 := by have := nearL_len l x; omega
       have hhit : placeB bs l x ((Lib.compact R).getD k 0) ((Lib.compact (sortI (lowL l x))).getD j 0) = true → spotE bs l x = (x.at_ ((Lib.compact R).getD k 0) ((Lib.compact (sortI (lowL l x))).getD j 0), true) := fun hp => by
        unfold spotE
        rw [scan_hit hlt hn (inner_hit (P := fun X => placeB bs l x X ((Lib.compact (sortI (lowL l x))).getD j 0)) hu huz hasc.2 hkl hp hno)]
       have hnext : placeB bs l x ((Lib.compact R).getD k 0) ((Lib.compact (sortI (lowL l x))).getD j 0) = false → ∀ i, i < k + 1 → placeB bs l x ((Lib.compact R).getD i 0) ((Lib.compact (sortI (lowL l x))).getD j 0) = false := fun hp => ltSucc hno hp
       clear hat hc0 hc1 hRl hlt' hjc hRc hRc2 hno hn hu huz hasc hk
       generalize hoff : (Lib.compact R).getD k 0 = off at *
       generalize hy : (Lib.compact (sortI (lowL l x))).getD j 0 = y at *
       have cc : ∀ nm, 4 ≤ nm → CallC Tryz.prog 79 [.agg [.v (.int .i64 off), .v (.int .i64 y)], .bp 1 0, .bp 0 0, .bp 2 0] [(1, .box (x.at_ X1 Y1).cells), (0, .box [.sl (bys bs)]), (2, .box [.own 3]), (3, .row (stys (nearL l x)) 8 48)] nm
         (.v (.bool (placeB bs l x off y))) [(1, some (.box (x.at_ off y).cells)), (0, some (.box [.sl (bys bs)])), (2, some (.box [.own 3])), (3, some (.row (stys (nearL l x)) 8 48))] :=
        fun nm h => spotC_ok bs (nearL l x) (x.at_ X1 Y1) off y nm (by omega) hcl h
       clear hoff
       cases hpb : placeB bs l x off y
       ·have hnx := hnext hpb
        rw [hpb] at cc
        clear hhit hnext hpb hcl
        unfold siS boxZ Sty.at_ at *
        repeat' (first
  | (apply Awp.sreg; (case hn => (simp only [List.length_cons, List.length_nil, Nat.reduceAdd] <;> rfl)))
  | (refine st_nil ?_)
  | (apply st_a; (case hc => rfl); (case he => (simp only [go_sem, *] <;> rfl)); (case hu => (simp only [updL_nil, updL_cons] <;> rfl)); (case hp => first | trivial | omega))
  | (apply st_cc; (case hc => (simp only [go_sem, *] <;> rfl)); (case hcc => exact cc _ (by omega)); (case hh => (first | (simp only [List.mem_singleton, forall_eq]; first | (simp only [go_sem, *] <;> rfl) | (simp only [go_sem, *]; simp [ints])) | (intro p hp; cases hp; done) | (intro p hp; simp only [List.mem_cons, List.not_mem_nil, or_false] at hp; rcases hp with rfl | rfl | rfl | rfl | rfl | rfl | rfl <;> (simp only [go_sem, *] <;> rfl)) | (intro p hp; simp only [List.mem_cons, List.not_mem_nil, or_false] at hp; rcases hp with rfl | rfl | rfl | rfl <;> (simp only [go_sem, *] <;> rfl)))); (case hu => (first | (simp; done) | decide)); (case hm => (first | decide | (simp; done))); (case hw => (simp only [updL_nil, updL_cons] <;> rfl)))
  | (apply Awp.reg; (case hn => (simp only [List.length_cons, List.length_nil, Nat.reduceAdd] <;> rfl)))
  | (refine Awp.skip ?_; try simp only [go_sem, *])
  | refine Awp.block ?_
  | (apply Awp.cond; (case hc => (simp only [go_sem, *] <;> rfl)); all_goals (intro hg; (try simp only [Bool.not_true, Bool.not_false, reduceCtorEq] at hg)))
  | refine Awp.seq ?_)
        refine ⟨(k + 1, (off, y)), ⟨by dsimp only; omega, hnx⟩, by dsimp only; omega, ?_⟩
        (apply Ghost.mk [] []; (case hdead => rfl); (case hinj => rfl); (case hV => (simp only [go_sem, *]) <;> (repeat' (first | refine And.intro ?_ ?_ | exact View.int (by first | rfl | omega | (simp; done) | (rw [wrap_i64] <;> (try simp only [Int.natCast_add]) <;> omega) | (simp [*]; done)) | exact .bp rfl (by decide) | exact .own rfl (by decide) | exact .pre rfl (by decide) | exact View.fn3 rfl rfl rfl (by decide)))); (case hB => (simp only [go_sem, *]) <;> (repeat' (first | refine And.intro ?_ ?_ | exact ⟨_, rfl, BView.boxF rfl⟩ | exact ⟨_, rfl, BView.own1 rfl (by decide)⟩ | exact ⟨_, rfl, .rowE (by first | rfl | omega | (simp; done) | (rw [wrap_i64] <;> (try simp only [Int.natCast_add]) <;> omega) | (simp [*]; done))⟩))))
       ·have hr := hhit hpb
        rw [hr]
        rw [hpb] at cc
        clear hhit hnext hpb hcl hr
        unfold siS boxZ Sty.at_ at *
        repeat' (first
  | (apply Awp.sreg; (case hn => (simp only [List.length_cons, List.length_nil, Nat.reduceAdd] <;> rfl)))
  | (refine st_nil ?_)
  | (apply st_a; (case hc => rfl); (case he => (simp only [go_sem, *] <;> rfl)); (case hu => (simp only [updL_nil, updL_cons] <;> rfl)); (case hp => first | trivial | omega))
  | (apply st_cc; (case hc => (simp only [go_sem, *] <;> rfl)); (case hcc => exact cc _ (by omega)); (case hh => (first | (simp only [List.mem_singleton, forall_eq]; first | (simp only [go_sem, *] <;> rfl) | (simp only [go_sem, *]; simp [ints])) | (intro p hp; cases hp; done) | (intro p hp; simp only [List.mem_cons, List.not_mem_nil, or_false] at hp; rcases hp with rfl | rfl | rfl | rfl | rfl | rfl | rfl <;> (simp only [go_sem, *] <;> rfl)) | (intro p hp; simp only [List.mem_cons, List.not_mem_nil, or_false] at hp; rcases hp with rfl | rfl | rfl | rfl <;> (simp only [go_sem, *] <;> rfl)))); (case hu => (first | (simp; done) | decide)); (case hm => (first | decide | (simp; done))); (case hw => (simp only [updL_nil, updL_cons] <;> rfl)))
  | (refine Awp.ret ?_; try simp only [go_sem, *])
  | (refine Awp.skip ?_; try simp only [go_sem, *])
  | refine Awp.block ?_
  | (apply Awp.cond; (case hc => (simp only [go_sem, *] <;> rfl)); all_goals (intro hg; (try simp only [Bool.not_true, Bool.not_false, reduceCtorEq] at hg)))
  | refine Awp.seq ?_)
        all_goals repeat' (first | exact Lower.bool (by first | rfl | (simp only [true_and, Bool.true_and, Bool.false_and, Bool.and_true, Bool.and_false, Bool.true_or, Bool.false_or, reduceIte, Bool.false_eq_true, *]; done) | (simp only [true_and, reduceIte, Bool.false_eq_true, *] <;> rfl) | (simp [true_and]; done) | (simp_all [true_and]; done) | omega) | exact Lower.int (by first | rfl | (simp only [true_and, Bool.true_and, Bool.false_and, Bool.and_true, Bool.and_false, Bool.true_or, Bool.false_or, reduceIte, Bool.false_eq_true, *]; done) | (simp only [true_and, reduceIte, Bool.false_eq_true, *] <;> rfl) | (simp [true_and]; done) | (simp_all [true_and]; done) | omega) | exact Lower.str (by first | rfl | (simp only [true_and, Bool.true_and, Bool.false_and, Bool.and_true, Bool.and_false, Bool.true_or, Bool.false_or, reduceIte, Bool.false_eq_true, *]; done) | (simp only [true_and, reduceIte, Bool.false_eq_true, *] <;> rfl) | (simp [true_and]; done) | (simp_all [true_and]; done) | omega) | refine Lower.aggF ?_ | refine Lower.tupF ?_ | refine All2.cons ?_ ?_ | exact All2.nil)
      ·have hkl' : ¬ (k : Int) < (Lib.compact R).length := by omega
       have hRn := RI_next hasc.1 hR
       have hne := ltSucc hn (inner_none (P := fun X => placeB bs l x X ((Lib.compact (sortI (lowL l x))).getD j 0)) hu (Nat.le_of_not_lt hkl) hno)
       clear hn hno hu huz hat hc0 hasc
       unfold siS boxZ
       repeat' (first
  | (apply Awp.sreg; (case hn => (simp only [List.length_cons, List.length_nil, Nat.reduceAdd] <;> rfl)))
  | (refine st_nil ?_)
  | (apply st_a; (case hc => rfl); (case he => (simp only [go_sem, *] <;> rfl)); (case hu => (simp only [updL_nil, updL_cons] <;> rfl)); (case hp => first | trivial))
  | (apply Awp.reg; (case hn => (simp only [List.length_cons, List.length_nil, Nat.reduceAdd] <;> rfl)))
  | (refine Awp.exit ?_; try simp only [go_sem, *])
  | (apply Awp.cond; (case hc => (simp only [go_sem, *] <;> rfl)); all_goals (intro hg; (try simp only [Bool.not_true, Bool.not_false, reduceCtorEq] at hg)))
  | refine Awp.seq ?_)
       refine ⟨(j + 1, (X1, Y1), comp0 R), ⟨by dsimp only; omega, hRn, hne⟩, by dsimp only; omega, ?_⟩
       unfold Sty.at_
       (apply Ghost.mk [] []; (case hdead => rfl); (case hinj => rfl); (case hV => (simp only [go_sem, *]) <;> (repeat' (first | refine And.intro ?_ ?_ | exact View.int (by first | rfl | omega | (simp; done) | (rw [wrap_i64] <;> (try simp only [Int.natCast_add]) <;> omega) | (simp [*]; done)) | exact .bp rfl (by decide) | exact .own rfl (by decide) | exact .pre rfl (by decide) | exact View.fn3 rfl rfl rfl (by decide)))); (case hB => (simp only [go_sem, *]) <;> (repeat' (first | refine And.intro ?_ ?_ | exact ⟨_, rfl, BView.boxF rfl⟩ | exact ⟨_, rfl, BView.own1 rfl (by decide)⟩ | exact ⟨_, rfl, .rowE (by first | rfl | omega | (simp; done) | (rw [wrap_i64] <;> (try simp only [Int.natCast_add]) <;> omega) | (simp [*]; done))⟩))))
    ·have hlt' : ¬ (j : Int) < (Lib.compact (sortI (lowL l x))).length := by omega
     have hr : spotE bs l x = (zeroSty, false) := by
      unfold spotE
      rw [scan_no (Nat.le_of_not_lt hlt) hn]
     rw [hr]
     clear hn hR hasc hr
     unfold sqS boxZ
     repeat' (first
  | (apply Awp.sreg; (case hn => (simp only [List.length_cons, List.length_nil, Nat.reduceAdd] <;> rfl)))
  | (refine st_nil ?_)
  | (apply st_a; (case hc => rfl); (case he => (simp only [go_sem, *] <;> rfl)); (case hu => (simp only [updL_nil, updL_cons] <;> rfl)); (case hp => first | trivial))
  | (refine Awp.ret ?_; try simp only [go_sem, *])
  | (refine Awp.exit ?_; try simp only [go_sem, *])
  | (apply Awp.cond; (case hc => (simp only [go_sem, *] <;> rfl)); all_goals (intro hg; (try simp only [Bool.not_true, Bool.not_false, reduceCtorEq] at hg)))
  | refine Awp.seq ?_)
     all_goals repeat' (first | exact Lower.bool (by first | rfl | (simp only [zeroSty, Bool.true_and, Bool.false_and, Bool.and_true, Bool.and_false, Bool.true_or, Bool.false_or, reduceIte, Bool.false_eq_true, *]; done) | (simp only [zeroSty, reduceIte, Bool.false_eq_true, *] <;> rfl) | (simp [zeroSty]; done) | (simp_all [zeroSty]; done) | omega) | exact Lower.int (by first | rfl | (simp only [zeroSty, Bool.true_and, Bool.false_and, Bool.and_true, Bool.and_false, Bool.true_or, Bool.false_or, reduceIte, Bool.false_eq_true, *]; done) | (simp only [zeroSty, reduceIte, Bool.false_eq_true, *] <;> rfl) | (simp [zeroSty]; done) | (simp_all [zeroSty]; done) | omega) | exact Lower.str (by first | rfl | (simp only [zeroSty, Bool.true_and, Bool.false_and, Bool.and_true, Bool.and_false, Bool.true_or, Bool.false_or, reduceIte, Bool.false_eq_true, *]; done) | (simp only [zeroSty, reduceIte, Bool.false_eq_true, *] <;> rfl) | (simp [zeroSty]; done) | (simp_all [zeroSty]; done) | omega) | refine Lower.aggF ?_ | refine Lower.tupF ?_ | refine All2.cons ?_ ?_ | exact All2.nil)
def sB : ByteArray := ⟨⟨[66]⟩⟩
def sI : ByteArray := ⟨⟨[73]⟩⟩
def mk (x y len wid a b : Int) : Sty := ⟨sI, sB, x, y, len, wid, a, b⟩
theorem fs_hit {α β : Type} {f : α → Option β} {l : List α} {d : α} {i : Nat} {b : β} (hi : i < l.length) (hj : ∀ j, j < i → f (l.getD j d) = none) (h : f (l.getD i d) = some b) : l.findSome? f = some b := by
 have h1 : l.getD i d = l[i] := by simp [List.getD_eq_getElem?_getD, hi]
 have e : l = l.take i ++ l[i] :: l.drop (i + 1) := by rw [List.getElem_cons_drop, List.take_append_drop]
 have hn : (l.take i).findSome? f = none := by
  rw [List.findSome?_eq_none_iff]
  intro y hy
  obtain ⟨j, hjl, rfl⟩ := List.getElem_of_mem hy
  have hji : j < i := by simp at hjl; omega
  have := hj j hji
  have hjll : j < l.length := by omega
  have h2 : l.getD j d = (l.take i)[j] := by simp [List.getD_eq_getElem?_getD, hjll]
  rwa [h2] at this
 rw [h1] at h
 rw [e, List.findSome?_append, hn, Option.none_or, List.findSome?_cons, h]
theorem fs_no {α β : Type} {f : α → Option β} {l : List α} {d : α} {i : Nat} (hi : l.length ≤ i) (hj : ∀ j, j < i → f (l.getD j d) = none) : l.findSome? f = none := by
 rw [List.findSome?_eq_none_iff]
 intro y hy
 obtain ⟨j, hjl, rfl⟩ := List.getElem_of_mem hy
 have := hj j (by omega)
 rwa [List.getD_eq_getElem?_getD, List.getElem?_eq_getElem hjl, Option.getD_some] at this
def Sty.when (x : Sty) (nm : ByteArray) (a b : Int) : Sty := ⟨x.item, nm, x.x, x.y, x.len, x.wid, a, b⟩
def tryB (bs : List By) (l : List Sty) (x : Sty) (h t : Int) (q : By) : Option Sty := if (spotE bs l (x.when q.nm t (IntKind.i64.wrap (t + h)))).2 then some (spotE bs l (x.when q.nm t (IntKind.i64.wrap (t + h)))).1 else none
def fitR (x : Sty) (h : Int) : Bool := !sideB x.len || !sideB x.wid || decide (h < 1) || decide (1048576 < h) || decide (x.a < 0) || decide (1048576 < x.a)
def fitS (bs : List By) (l : List Sty) (x : Sty) (h : Int) : Option Sty := (startsZ l x.a).findSome? fun t => bs.findSome? (tryB bs l x h t)
def fitE (bs : List By) (l : List Sty) (x : Sty) (h : Int) : Sty × Int :=
 if checkE bs l != 0 then (zeroSty, checkE bs l) else if !idB x.item then (zeroSty, 6) else if fitR x h then (zeroSty, 9) else if decide ((128 : Int) ≤ l.length) then (zeroSty, 12)
 else match fitS bs l x h with
  | some y => (y, 0)
  | none => (zeroSty, 18)
theorem fit_ok (bs : List By) (l : List Sty) (x : Sty) (h : Int) (hb : bs.length < 90000) (hl : l.length < 90000) : Pure Tryz.prog 30 [.sl (bys bs), .sl (stys l), x.av, .v (.int .i64 h)] (.tup [(fitE bs l x h).1.av, .v (.int .i64 (fitE bs l x h).2)]) := by
 have c0 := check_ok bs l (by omega) (by omega)
 have c1 := isid_ok x.item
 have c2 := starts_ok l x.a (by omega)
 unfold fitE
 by_cases hC : checkE bs l = 0
 case neg =>
  have hC' : (checkE bs l != 0) = true := by simpa using hC
  rw [if_pos hC']
  generalize checkE bs l = e at *
  refine fn_pure Tryz.F30 (Nat.le_of_ble_eq_true rfl) ?_; unfold Tryz.ac30 AR AM AO
  repeat' (first
  | (apply Awp.sreg; (case hn => (simp only [List.length_cons, List.length_nil, Nat.reduceAdd] <;> rfl)))
  | (refine st_nil ?_)
  | (apply st_a; (case hc => rfl); (case he => (simp only [go_sem, *] <;> rfl)); (case hu => (simp only [updL_nil, updL_cons] <;> rfl)); (case hp => first | trivial))
  | (apply st_c; (case hc => (simp only [go_sem, *] <;> rfl)); (case hl => (simp only [go_sem, *] <;> rfl)); (case hn => (simp only [go_sem, *] <;> rfl)); (case hp => first | exact c0 | (have hXz := c0; simp only [go_sem, *] at hXz; exact hXz)))
  | (refine Awp.ret ?_; try simp only [go_sem, *])
  | (apply Awp.cond; (case hc => (simp only [go_sem, *] <;> rfl)); all_goals (intro hg; (try simp only [Bool.not_true, Bool.not_false, reduceCtorEq] at hg)))
  | refine Awp.seq ?_)
  all_goals repeat' (first | exact Lower.int (by first | rfl | (simp only [zeroSty, Bool.true_and, Bool.false_and, Bool.and_true, Bool.and_false, Bool.true_or, Bool.false_or, reduceIte, Bool.false_eq_true, *]; done) | (simp only [zeroSty, reduceIte, Bool.false_eq_true, *] <;> rfl) | (simp [zeroSty]; done) | (simp_all [zeroSty]; done) | omega) | exact Lower.str (by first | rfl | (simp only [zeroSty, Bool.true_and, Bool.false_and, Bool.and_true, Bool.and_false, Bool.true_or, Bool.false_or, reduceIte, Bool.false_eq_true, *]; done) | (simp only [zeroSty, reduceIte, Bool.false_eq_true, *] <;> rfl) | (simp [zeroSty]; done) | (simp_all [zeroSty]; done) | omega) | refine Lower.aggF ?_ | refine Lower.tupF ?_ | refine All2.cons ?_ ?_ | exact All2.nil)
 rw [if_neg (by rw [hC]; simp)]
 rw [hC] at c0
 cases h1 : idB x.item
 ·rw [if_pos (by simp)]
  refine fn_pure Tryz.F30 (Nat.le_of_ble_eq_true rfl) ?_; unfold Tryz.ac30 AR AM AO
  repeat' (first
  | (apply Awp.sreg; (case hn => (simp only [List.length_cons, List.length_nil, Nat.reduceAdd] <;> rfl)))
  | (refine st_nil ?_)
  | (apply st_a; (case hc => rfl); (case he => (simp only [go_sem, *] <;> rfl)); (case hu => (simp only [updL_nil, updL_cons] <;> rfl)); (case hp => first | trivial))
  | (apply st_c; (case hc => (simp only [go_sem, *] <;> rfl)); (case hl => (simp only [go_sem, *] <;> rfl)); (case hn => (simp only [go_sem, *] <;> rfl)); (case hp => first | exact c0 | (have hXz := c0; simp only [go_sem, *] at hXz; exact hXz)))
  | (apply st_c; (case hc => (simp only [go_sem, *] <;> rfl)); (case hl => (simp only [go_sem, *] <;> rfl)); (case hn => (simp only [go_sem, *] <;> rfl)); (case hp => first | exact c1 | (have hXz := c1; simp only [go_sem, *] at hXz; exact hXz)))
  | (refine Awp.ret ?_; try simp only [go_sem, *])
  | (refine Awp.skip ?_; try simp only [go_sem, *])
  | refine Awp.block ?_
  | (apply Awp.cond; (case hc => (simp only [go_sem, *] <;> rfl)); all_goals (intro hg; (try simp only [Bool.not_true, Bool.not_false, reduceCtorEq] at hg)))
  | refine Awp.seq ?_)
  all_goals repeat' (first | exact Lower.int (by first | rfl | (simp only [zeroSty, Bool.true_and, Bool.false_and, Bool.and_true, Bool.and_false, Bool.true_or, Bool.false_or, reduceIte, Bool.false_eq_true, *]; done) | (simp only [zeroSty, reduceIte, Bool.false_eq_true, *] <;> rfl) | (simp [zeroSty]; done) | (simp_all [zeroSty]; done) | omega) | exact Lower.str (by first | rfl | (simp only [zeroSty, Bool.true_and, Bool.false_and, Bool.and_true, Bool.and_false, Bool.true_or, Bool.false_or, reduceIte, Bool.false_eq_true, *]; done) | (simp only [zeroSty, reduceIte, Bool.false_eq_true, *] <;> rfl) | (simp [zeroSty]; done) | (simp_all [zeroSty]; done) | omega) | refine Lower.aggF ?_ | refine Lower.tupF ?_ | refine All2.cons ?_ ?_ | exact All2.nil)
 rw [if_neg (by simp)]
 rw [h1] at c1
 cases h2 : fitR x h
 case true =>
  rw [if_pos rfl]
  have h2' := h2
  unfold fitR at h2'
  refine fn_pure Tryz.F30 (Nat.le_of_ble_eq_true rfl) ?_; unfold Tryz.ac30 AR AM AO
  repeat' (first
  | (apply Awp.sreg; (case hn => (simp only [List.length_cons, List.length_nil, Nat.reduceAdd] <;> rfl)))
  | (refine st_nil ?_)
  | (apply st_a; (case hc => rfl); (case he => (simp only [go_sem, *] <;> rfl)); (case hu => (simp only [updL_nil, updL_cons] <;> rfl)); (case hp => first | trivial))
  | (apply st_m; (case hc => rfl); (case hg => (simp only [go_sem, *] <;> rfl)); (case he => (intro hQz; (try simp only [wantB_t, wantB_f, Bool.and_eq_true, Bool.not_eq_true', Bool.not_true, Bool.not_false, and_true, true_and] at hQz); simp only [go_sem, *] <;> rfl)); (case hp => (intro hQz; (try simp only [wantB_t, wantB_f, Bool.and_eq_true, Bool.not_eq_true', Bool.or_eq_false_iff, decide_eq_true_eq, decide_eq_false_iff_not, beq_iff_eq, beq_eq_false_iff_ne, bne_iff_ne, bne_eq_false_iff_eq, Int.not_lt, Int.not_le, Int.ofNat_lt, Int.ofNat_le] at hQz); first | trivial)))
  | (apply st_c; (case hc => (simp only [go_sem, *] <;> rfl)); (case hl => (simp only [go_sem, *] <;> rfl)); (case hn => (simp only [go_sem, *] <;> rfl)); (case hp => first | exact c0 | (have hXz := c0; simp only [go_sem, *] at hXz; exact hXz)))
  | (apply st_c; (case hc => (simp only [go_sem, *] <;> rfl)); (case hl => (simp only [go_sem, *] <;> rfl)); (case hn => (simp only [go_sem, *] <;> rfl)); (case hp => first | exact c1 | (have hXz := c1; simp only [go_sem, *] at hXz; exact hXz)))
  | (apply st_mc; (case hop => rfl); (case hg => (simp only [go_sem, *] <;> rfl)); (case hc => (intro hQz; (try simp only [wantB_t, wantB_f, Bool.and_eq_true, Bool.not_eq_true', Bool.not_true, Bool.not_false, and_true, true_and] at hQz); simp only [go_sem, *] <;> rfl)); (case hl => (intro hQz; (try simp only [wantB_t, wantB_f, Bool.and_eq_true, Bool.not_eq_true', Bool.not_true, Bool.not_false, and_true, true_and] at hQz); simp only [go_sem, *] <;> rfl)); (case hn => (intro hQz; (try simp only [wantB_t, wantB_f, Bool.and_eq_true, Bool.not_eq_true', Bool.not_true, Bool.not_false, and_true, true_and] at hQz); simp only [go_sem, *] <;> rfl)); (case hp => intro hQz; first | exact side_ok _ | (have hXz := side_ok _; simp only [go_sem, *] at hXz; exact hXz)))
  | (apply st_c; (case hc => (simp only [go_sem, *] <;> rfl)); (case hl => (simp only [go_sem, *] <;> rfl)); (case hn => (simp only [go_sem, *] <;> rfl)); (case hp => first | exact side_ok _ | (have hXz := side_ok _; simp only [go_sem, *] at hXz; exact hXz)))
  | (refine Awp.ret ?_; try simp only [go_sem, *])
  | (refine Awp.skip ?_; try simp only [go_sem, *])
  | refine Awp.block ?_
  | (apply Awp.cond; (case hc => (simp only [go_sem, *] <;> rfl)); all_goals (intro hg; (try simp only [Bool.not_true, Bool.not_false, reduceCtorEq] at hg)))
  | refine Awp.seq ?_)
  all_goals repeat' (first | exact Lower.int (by first | rfl | (simp only [zeroSty, Bool.true_and, Bool.false_and, Bool.and_true, Bool.and_false, Bool.true_or, Bool.false_or, reduceIte, Bool.false_eq_true, *]; done) | (simp only [zeroSty, reduceIte, Bool.false_eq_true, *] <;> rfl) | (simp [zeroSty]; done) | (simp_all [zeroSty]; done) | omega) | exact Lower.str (by first | rfl | (simp only [zeroSty, Bool.true_and, Bool.false_and, Bool.and_true, Bool.and_false, Bool.true_or, Bool.false_or, reduceIte, Bool.false_eq_true, *]; done) | (simp only [zeroSty, reduceIte, Bool.false_eq_true, *] <;> rfl) | (simp [zeroSty]; done) | (simp_all [zeroSty]; done) | omega) | refine Lower.aggF ?_ | refine Lower.tupF ?_ | refine All2.cons ?_ ?_ | exact All2.nil)
 rw [if_neg (by simp)]
 have h2' := h2
 unfold fitR at h2'
 by_cases h3 : (128 : Int) ≤ l.length
 ·rw [if_pos (by simpa using h3)]
  refine fn_pure Tryz.F30 (Nat.le_of_ble_eq_true rfl) ?_; unfold Tryz.ac30 AR AM AO
  repeat' (first
  | (apply Awp.sreg; (case hn => (simp only [List.length_cons, List.length_nil, Nat.reduceAdd] <;> rfl)))
  | (refine st_nil ?_)
  | (apply st_a; (case hc => rfl); (case he => (simp only [go_sem, *] <;> rfl)); (case hu => (simp only [updL_nil, updL_cons] <;> rfl)); (case hp => first | trivial))
  | (apply st_m; (case hc => rfl); (case hg => (simp only [go_sem, *] <;> rfl)); (case he => (intro hQz; (try simp only [wantB_t, wantB_f, Bool.and_eq_true, Bool.not_eq_true', Bool.not_true, Bool.not_false, and_true, true_and] at hQz); simp only [go_sem, *] <;> rfl)); (case hp => (intro hQz; (try simp only [wantB_t, wantB_f, Bool.and_eq_true, Bool.not_eq_true', Bool.or_eq_false_iff, decide_eq_true_eq, decide_eq_false_iff_not, beq_iff_eq, beq_eq_false_iff_ne, bne_iff_ne, bne_eq_false_iff_eq, Int.not_lt, Int.not_le, Int.ofNat_lt, Int.ofNat_le] at hQz); first | trivial)))
  | (apply st_c; (case hc => (simp only [go_sem, *] <;> rfl)); (case hl => (simp only [go_sem, *] <;> rfl)); (case hn => (simp only [go_sem, *] <;> rfl)); (case hp => first | exact c0 | (have hXz := c0; simp only [go_sem, *] at hXz; exact hXz)))
  | (apply st_c; (case hc => (simp only [go_sem, *] <;> rfl)); (case hl => (simp only [go_sem, *] <;> rfl)); (case hn => (simp only [go_sem, *] <;> rfl)); (case hp => first | exact c1 | (have hXz := c1; simp only [go_sem, *] at hXz; exact hXz)))
  | (apply st_mc; (case hop => rfl); (case hg => (simp only [go_sem, *] <;> rfl)); (case hc => (intro hQz; (try simp only [wantB_t, wantB_f, Bool.and_eq_true, Bool.not_eq_true', Bool.not_true, Bool.not_false, and_true, true_and] at hQz); simp only [go_sem, *] <;> rfl)); (case hl => (intro hQz; (try simp only [wantB_t, wantB_f, Bool.and_eq_true, Bool.not_eq_true', Bool.not_true, Bool.not_false, and_true, true_and] at hQz); simp only [go_sem, *] <;> rfl)); (case hn => (intro hQz; (try simp only [wantB_t, wantB_f, Bool.and_eq_true, Bool.not_eq_true', Bool.not_true, Bool.not_false, and_true, true_and] at hQz); simp only [go_sem, *] <;> rfl)); (case hp => intro hQz; first | exact side_ok _ | (have hXz := side_ok _; simp only [go_sem, *] at hXz; exact hXz)))
  | (apply st_c; (case hc => (simp only [go_sem, *] <;> rfl)); (case hl => (simp only [go_sem, *] <;> rfl)); (case hn => (simp only [go_sem, *] <;> rfl)); (case hp => first | exact side_ok _ | (have hXz := side_ok _; simp only [go_sem, *] at hXz; exact hXz)))
  | (refine Awp.ret ?_; try simp only [go_sem, *])
  | (refine Awp.skip ?_; try simp only [go_sem, *])
  | refine Awp.block ?_
  | (apply Awp.cond; (case hc => (simp only [go_sem, *] <;> rfl)); all_goals (intro hg; (try simp only [Bool.not_true, Bool.not_false, reduceCtorEq] at hg)))
  | refine Awp.seq ?_)
  all_goals repeat' (first | exact Lower.int (by first | rfl | (simp only [zeroSty, Bool.true_and, Bool.false_and, Bool.and_true, Bool.and_false, Bool.true_or, Bool.false_or, reduceIte, Bool.false_eq_true, *]; done) | (simp only [zeroSty, reduceIte, Bool.false_eq_true, *] <;> rfl) | (simp [zeroSty]; done) | (simp_all [zeroSty]; done) | omega) | exact Lower.str (by first | rfl | (simp only [zeroSty, Bool.true_and, Bool.false_and, Bool.and_true, Bool.and_false, Bool.true_or, Bool.false_or, reduceIte, Bool.false_eq_true, *]; done) | (simp only [zeroSty, reduceIte, Bool.false_eq_true, *] <;> rfl) | (simp [zeroSty]; done) | (simp_all [zeroSty]; done) | omega) | refine Lower.aggF ?_ | refine Lower.tupF ?_ | refine All2.cons ?_ ?_ | exact All2.nil)
 rw [if_neg (by simpa using h3)]
 refine fn_pure Tryz.F30 (Nat.le_of_ble_eq_true rfl) ?_; unfold Tryz.ac30 AR AM AO
 repeat' (first
  | (apply Awp.sreg; (case hn => (simp only [List.length_cons, List.length_nil, Nat.reduceAdd] <;> rfl)))
  | (refine st_nil ?_)
  | (apply st_a; (case hc => rfl); (case he => (simp only [go_sem, *] <;> rfl)); (case hu => (simp only [updL_nil, updL_cons] <;> rfl)); (case hp => first | trivial))
  | (apply st_m; (case hc => rfl); (case hg => (simp only [go_sem, *] <;> rfl)); (case he => (intro hQz; (try simp only [wantB_t, wantB_f, Bool.and_eq_true, Bool.not_eq_true', Bool.not_true, Bool.not_false, and_true, true_and] at hQz); simp only [go_sem, *] <;> rfl)); (case hp => (intro hQz; (try simp only [wantB_t, wantB_f, Bool.and_eq_true, Bool.not_eq_true', Bool.or_eq_false_iff, decide_eq_true_eq, decide_eq_false_iff_not, beq_iff_eq, beq_eq_false_iff_ne, bne_iff_ne, bne_eq_false_iff_eq, Int.not_lt, Int.not_le, Int.ofNat_lt, Int.ofNat_le] at hQz); first | trivial)))
  | (apply st_c; (case hc => (simp only [go_sem, *] <;> rfl)); (case hl => (simp only [go_sem, *] <;> rfl)); (case hn => (simp only [go_sem, *] <;> rfl)); (case hp => first | exact c0 | (have hXz := c0; simp only [go_sem, *] at hXz; exact hXz)))
  | (apply st_c; (case hc => (simp only [go_sem, *] <;> rfl)); (case hl => (simp only [go_sem, *] <;> rfl)); (case hn => (simp only [go_sem, *] <;> rfl)); (case hp => first | exact c1 | (have hXz := c1; simp only [go_sem, *] at hXz; exact hXz)))
  | (apply st_mc; (case hop => rfl); (case hg => (simp only [go_sem, *] <;> rfl)); (case hc => (intro hQz; (try simp only [wantB_t, wantB_f, Bool.and_eq_true, Bool.not_eq_true', Bool.not_true, Bool.not_false, and_true, true_and] at hQz); simp only [go_sem, *] <;> rfl)); (case hl => (intro hQz; (try simp only [wantB_t, wantB_f, Bool.and_eq_true, Bool.not_eq_true', Bool.not_true, Bool.not_false, and_true, true_and] at hQz); simp only [go_sem, *] <;> rfl)); (case hn => (intro hQz; (try simp only [wantB_t, wantB_f, Bool.and_eq_true, Bool.not_eq_true', Bool.not_true, Bool.not_false, and_true, true_and] at hQz); simp only [go_sem, *] <;> rfl)); (case hp => intro hQz; first | exact side_ok _ | (have hXz := side_ok _; simp only [go_sem, *] at hXz; exact hXz)))
  | (apply st_c; (case hc => (simp only [go_sem, *] <;> rfl)); (case hl => (simp only [go_sem, *] <;> rfl)); (case hn => (simp only [go_sem, *] <;> rfl)); (case hp => first | exact side_ok _ | (have hXz := side_ok _; simp only [go_sem, *] at hXz; exact hXz)))
  | (apply st_co; (case hc => (simp only [go_sem, *] <;> rfl)); (case hl => (simp only [go_sem, *] <;> rfl)); (case hn => (simp only [go_sem, *] <;> rfl)); (case hp => first | exact c2 | (have hXz := c2; simp only [go_sem, *] at hXz; exact hXz)))
  | (refine Awp.skip ?_; try simp only [go_sem, *])
  | refine Awp.block ?_
  | (apply Awp.cond; (case hc => (simp only [go_sem, *] <;> rfl)); all_goals (intro hg; (try simp only [Bool.not_true, Bool.not_false, reduceCtorEq] at hg)))
  | refine Awp.seq ?_)
 clear c0 c1 c2 h1 h2 h2' hC
 have hSl : (startsZ l x.a).length < 1000000 := by
  refine Nat.lt_of_le_of_lt (compact_len _) ?_
  rw [sortI_len]
  have := endsL_len l x.a
  omega
 obtain ⟨S, hS⟩ : ∃ S, startsZ l x.a = S := ⟨_, rfl⟩
 unfold fitS
 rw [hS] at hSl ⊢
 clear hS
 refine Awp.loop (fun q : Nat × (ByteArray × Int × Int) => q.1 ≤ S.length ∧ ∀ j, j < q.1 → bs.findSome? (tryB bs l x h (S.getD j 0)) = none) 200
  (fun q => mkS [(0, .sl (bys bs)), (1, .sl (stys l)), (3, .v (.int .i64 h)), (6, .bp 0 0), (8, .bp 1 0), (71, .own 2), (72, .v (.int .i64 S.length)), (73, .v (.int .i64 q.1))] [(0, .box (x.when q.2.1 q.2.2.1 q.2.2.2).cells), (1, .box boxZ), (2, .row (ints S) 1 3)]) (fun q => S.length - q.1) (0, (x.bay, x.a, x.b)) ⟨Nat.zero_le _, fun j hj => by simp at hj⟩ ?_ ?_
 ·unfold boxZ Sty.when
  (apply Ghost.mk [(2, 53)] []; (case hdead => rfl); (case hinj => rfl); (case hV => (simp only [go_sem, *]) <;> (repeat' (first | refine And.intro ?_ ?_ | exact View.int (by first | rfl | omega | (simp; done) | (rw [wrap_i64] <;> (try simp only [Int.natCast_add]) <;> omega) | (simp [*]; done)) | exact .bp rfl (by decide) | exact .own rfl (by decide)))); (case hB => (simp only [go_sem, *]) <;> (repeat' (first | refine And.intro ?_ ?_ | exact ⟨_, rfl, BView.boxF rfl⟩ | exact ⟨_, rfl, .rowE (by first | rfl | omega | (simp; done) | (rw [wrap_i64] <;> (try simp only [Int.natCast_add]) <;> omega) | (simp [*]; done))⟩))))
 ·intro ⟨j, ⟨n0, a0, b0⟩⟩ ⟨hj, hno⟩
  dsimp only at hj hno
  by_cases hlt : j < S.length
  ·have hlt' : (j : Int) < S.length := by omega
   have hat := ints_at S j hlt
   obtain ⟨t, ht⟩ : ∃ t, S.getD j 0 = t := ⟨_, rfl⟩
   rw [ht] at hat
   unfold boxZ Sty.when
   repeat' (first
  | (apply Awp.sreg; (case hn => (simp only [List.length_cons, List.length_nil, Nat.reduceAdd] <;> rfl)))
  | (refine st_nil ?_)
  | (apply st_a; (case hc => rfl); (case he => (simp only [go_sem, *] <;> rfl)); (case hu => (simp only [updL_nil, updL_cons] <;> rfl)); (case hp => first | trivial | omega))
  | (refine Awp.skip ?_; try simp only [go_sem, *])
  | refine Awp.block ?_
  | (apply Awp.cond; (case hc => (simp only [go_sem, *] <;> rfl)); all_goals (intro hg; (try simp only [Bool.not_true, Bool.not_false, reduceCtorEq] at hg)))
  | refine Awp.seq ?_)
   refine Awp.loop (fun q : Nat × (ByteArray × Int × Int) => q.1 ≤ bs.length ∧ ∀ i, i < q.1 → tryB bs l x h t (bs.getD i zeroBy) = none) 300
    (fun q => mkS [(0, .sl (bys bs)), (1, .sl (stys l)), (3, .v (.int .i64 h)), (6, .bp 0 0), (8, .bp 1 0), (12, .v (.int .i64 t)), (71, .own 2), (72, .v (.int .i64 S.length)), (73, .v (.int .i64 j)), (77, .sl (bys bs)), (78, .v (.int .i64 bs.length)), (79, .v (.int .i64 q.1))] [(0, .box (x.when q.2.1 q.2.2.1 q.2.2.2).cells), (1, .box boxZ), (2, .row (ints S) 1 3)]) (fun q => bs.length - q.1) (0, (n0, a0, b0)) ⟨Nat.zero_le _, fun j hj => by simp at hj⟩ ?_ ?_
   ·unfold boxZ Sty.when
    (apply Ghost.mk [] []; (case hdead => rfl); (case hinj => rfl); (case hV => (simp only [go_sem, *]) <;> (repeat' (first | refine And.intro ?_ ?_ | exact View.int (by first | rfl | omega | (simp; done) | (rw [wrap_i64] <;> (try simp only [Int.natCast_add]) <;> omega) | (simp [*]; done)) | exact .bp rfl (by decide) | exact .own rfl (by decide)))); (case hB => (simp only [go_sem, *]) <;> (repeat' (first | refine And.intro ?_ ?_ | exact ⟨_, rfl, BView.boxF rfl⟩ | exact ⟨_, rfl, .rowE (by first | rfl | omega | (simp; done) | (rw [wrap_i64] <;> (try simp only [Int.natCast_add]) <;> omega) | (simp [*]; done))⟩))))
   ·intro ⟨k, ⟨n1, a1, b1⟩⟩ ⟨hk, hnk⟩
    dsimp only at hk hnk
    by_cases hlk : k < bs.length
    ·have hlk' : (k : Int) < bs.length := by omega
     have hatk := bys_at bs k hlk
     have hz : ((bs.getD k zeroBy).cells).length = 3 := rfl
     obtain ⟨q, hq⟩ : ∃ q, bs.getD k zeroBy = q := ⟨_, rfl⟩
     rw [hq] at hatk hz
     have c3 := spot_ok bs l (x.when q.nm t (IntKind.i64.wrap (t + h))) (by omega) hl
     have hty : tryB bs l x h t q = if (spotE bs l (x.when q.nm t (IntKind.i64.wrap (t + h)))).2 then some (spotE bs l (x.when q.nm t (IntKind.i64.wrap (t + h)))).1 else none := rfl
     have hnx : tryB bs l x h t q = none → ∀ i, i < k + 1 → tryB bs l x h t (bs.getD i zeroBy) = none := fun hp => ltSucc hnk (by rw [hq]; exact hp)
     have hyes : ∀ {y : Sty}, tryB bs l x h t q = some y → S.findSome? (fun t => bs.findSome? (tryB bs l x h t)) = some y := fun {y} hp => by
      refine fs_hit (d := 0) hlt hno ?_
      rw [ht]
      exact fs_hit hlk hnk (by rw [hq]; exact hp)
     clear hno hnk hq ht
     generalize hsp : spotE bs l (x.when q.nm t (IntKind.i64.wrap (t + h))) = sp at *
     obtain ⟨y, f⟩ := sp
     dsimp only at hty c3
     clear hsp
     cases f
     ·have hn2 := hnx (by rw [hty]; rfl)
      clear hnx hyes hty
      unfold boxZ Sty.when at *
      repeat' (first
  | (apply Awp.sreg; (case hn => (simp only [List.length_cons, List.length_nil, Nat.reduceAdd] <;> rfl)))
  | (refine st_nil ?_)
  | (apply st_a; (case hc => rfl); (case he => (simp only [go_sem, *] <;> rfl)); (case hu => (simp only [updL_nil, updL_cons] <;> rfl)); (case hp => first | trivial | omega))
  | (apply st_c; (case hc => (simp only [go_sem, *] <;> rfl)); (case hl => (simp only [go_sem, *] <;> rfl)); (case hn => (simp only [go_sem, *] <;> rfl)); (case hp => first | exact c3 | (have hXz := c3; simp only [go_sem, *] at hXz; exact hXz)))
  | (apply Awp.reg; (case hn => (simp only [List.length_cons, List.length_nil, Nat.reduceAdd] <;> rfl)))
  | (refine Awp.skip ?_; try simp only [go_sem, *])
  | refine Awp.block ?_
  | (apply Awp.cond; (case hc => (simp only [go_sem, *] <;> rfl)); all_goals (intro hg; (try simp only [Bool.not_true, Bool.not_false, reduceCtorEq] at hg)))
  | refine Awp.seq ?_)
      refine ⟨(k + 1, (q.nm, t, IntKind.i64.wrap (t + h))), ⟨by dsimp only; omega, hn2⟩, by dsimp only; omega, ?_⟩
      (apply Ghost.mk [] []; (case hdead => rfl); (case hinj => rfl); (case hV => (simp only [go_sem, *]) <;> (repeat' (first | refine And.intro ?_ ?_ | exact View.int (by first | rfl | omega | (simp; done) | (rw [wrap_i64] <;> (try simp only [Int.natCast_add]) <;> omega) | (simp [*]; done)) | exact .bp rfl (by decide) | exact .own rfl (by decide)))); (case hB => (simp only [go_sem, *]) <;> (repeat' (first | refine And.intro ?_ ?_ | exact ⟨_, rfl, BView.boxF rfl⟩ | exact ⟨_, rfl, .rowE (by first | rfl | omega | (simp; done) | (rw [wrap_i64] <;> (try simp only [Int.natCast_add]) <;> omega) | (simp [*]; done))⟩))))
     ·have hy2 := hyes (y := y) (by rw [hty]; rfl)
      rw [hy2]
      clear hnx hyes hty hy2
      unfold boxZ Sty.when at *
      repeat' (first
  | (apply Awp.sreg; (case hn => (simp only [List.length_cons, List.length_nil, Nat.reduceAdd] <;> rfl)))
  | (refine st_nil ?_)
  | (apply st_a; (case hc => rfl); (case he => (simp only [go_sem, *] <;> rfl)); (case hu => (simp only [updL_nil, updL_cons] <;> rfl)); (case hp => first | trivial | omega))
  | (apply st_c; (case hc => (simp only [go_sem, *] <;> rfl)); (case hl => (simp only [go_sem, *] <;> rfl)); (case hn => (simp only [go_sem, *] <;> rfl)); (case hp => first | exact c3 | (have hXz := c3; simp only [go_sem, *] at hXz; exact hXz)))
  | (refine Awp.ret ?_; try simp only [go_sem, *])
  | (refine Awp.skip ?_; try simp only [go_sem, *])
  | refine Awp.block ?_
  | (apply Awp.cond; (case hc => (simp only [go_sem, *] <;> rfl)); all_goals (intro hg; (try simp only [Bool.not_true, Bool.not_false, reduceCtorEq] at hg)))
  | refine Awp.seq ?_)
      all_goals repeat' (first | exact Lower.int (by first | rfl | (simp only [true_and, Bool.true_and, Bool.false_and, Bool.and_true, Bool.and_false, Bool.true_or, Bool.false_or, reduceIte, Bool.false_eq_true, *]; done) | (simp only [true_and, reduceIte, Bool.false_eq_true, *] <;> rfl) | (simp [true_and]; done) | (simp_all [true_and]; done) | omega) | exact Lower.str (by first | rfl | (simp only [true_and, Bool.true_and, Bool.false_and, Bool.and_true, Bool.and_false, Bool.true_or, Bool.false_or, reduceIte, Bool.false_eq_true, *]; done) | (simp only [true_and, reduceIte, Bool.false_eq_true, *] <;> rfl) | (simp [true_and]; done) | (simp_all [true_and]; done) | omega) | refine Lower.aggF ?_ | refine Lower.tupF ?_ | refine All2.cons ?_ ?_ | exact All2.nil)
    ·have hlk' : ¬ (k : Int) < bs.length := by omega
     have hn2 := ltSucc hno (by rw [ht]; exact fs_no (Nat.le_of_not_lt hlk) hnk)
     clear hno hnk hat
     unfold boxZ Sty.when
     repeat' (first
  | (apply Awp.sreg; (case hn => (simp only [List.length_cons, List.length_nil, Nat.reduceAdd] <;> rfl)))
  | (refine st_nil ?_)
  | (apply st_a; (case hc => rfl); (case he => (simp only [go_sem, *] <;> rfl)); (case hu => (simp only [updL_nil, updL_cons] <;> rfl)); (case hp => first | trivial))
  | (apply Awp.reg; (case hn => (simp only [List.length_cons, List.length_nil, Nat.reduceAdd] <;> rfl)))
  | (refine Awp.exit ?_; try simp only [go_sem, *])
  | (apply Awp.cond; (case hc => (simp only [go_sem, *] <;> rfl)); all_goals (intro hg; (try simp only [Bool.not_true, Bool.not_false, reduceCtorEq] at hg)))
  | refine Awp.seq ?_)
     refine ⟨(j + 1, (n1, a1, b1)), ⟨by dsimp only; omega, hn2⟩, by dsimp only; omega, ?_⟩
     (apply Ghost.mk [] []; (case hdead => rfl); (case hinj => rfl); (case hV => (simp only [go_sem, *]) <;> (repeat' (first | refine And.intro ?_ ?_ | exact View.int (by first | rfl | omega | (simp; done) | (rw [wrap_i64] <;> (try simp only [Int.natCast_add]) <;> omega) | (simp [*]; done)) | exact .bp rfl (by decide) | exact .own rfl (by decide)))); (case hB => (simp only [go_sem, *]) <;> (repeat' (first | refine And.intro ?_ ?_ | exact ⟨_, rfl, BView.boxF rfl⟩ | exact ⟨_, rfl, .rowE (by first | rfl | omega | (simp; done) | (rw [wrap_i64] <;> (try simp only [Int.natCast_add]) <;> omega) | (simp [*]; done))⟩))))
  ·have hlt' : ¬ (j : Int) < S.length := by omega
   have hn2 : S.findSome? (fun t => bs.findSome? (tryB bs l x h t)) = none := fs_no (d := 0) (Nat.le_of_not_lt hlt) hno
   rw [hn2]
   clear hno hn2
   unfold boxZ Sty.when
   repeat' (first
  | (apply Awp.sreg; (case hn => (simp only [List.length_cons, List.length_nil, Nat.reduceAdd] <;> rfl)))
  | (refine st_nil ?_)
  | (apply st_a; (case hc => rfl); (case he => (simp only [go_sem, *] <;> rfl)); (case hu => (simp only [updL_nil, updL_cons] <;> rfl)); (case hp => first | trivial))
  | (refine Awp.ret ?_; try simp only [go_sem, *])
  | (refine Awp.exit ?_; try simp only [go_sem, *])
  | (apply Awp.cond; (case hc => (simp only [go_sem, *] <;> rfl)); all_goals (intro hg; (try simp only [Bool.not_true, Bool.not_false, reduceCtorEq] at hg)))
  | refine Awp.seq ?_)
   all_goals repeat' (first | exact Lower.int (by first | rfl | (simp only [zeroSty, Bool.true_and, Bool.false_and, Bool.and_true, Bool.and_false, Bool.true_or, Bool.false_or, reduceIte, Bool.false_eq_true, *]; done) | (simp only [zeroSty, reduceIte, Bool.false_eq_true, *] <;> rfl) | (simp [zeroSty]; done) | (simp_all [zeroSty]; done) | omega) | exact Lower.str (by first | rfl | (simp only [zeroSty, Bool.true_and, Bool.false_and, Bool.and_true, Bool.and_false, Bool.true_or, Bool.false_or, reduceIte, Bool.false_eq_true, *]; done) | (simp only [zeroSty, reduceIte, Bool.false_eq_true, *] <;> rfl) | (simp [zeroSty]; done) | (simp_all [zeroSty]; done) | omega) | refine Lower.aggF ?_ | refine Lower.tupF ?_ | refine All2.cons ?_ ?_ | exact All2.nil)
end Go.Proofs
namespace Go.Proofs
open Go Go.Ab
set_option maxHeartbeats 8000000
set_option maxRecDepth 100000
attribute [local irreducible] Awp aops aopsL Go.Ab.Pure PureOwn PureTwoM
def isN (s : ByteArray) (q : Wk) : Bool := q.id.toList == s.toList
def findW (l : List Wk) (s : ByteArray) : Int := idxF (isN s) l
theorem wfind_ok (l : List Wk) (s : ByteArray) (hl : l.length < 1000000) : Pure Tryz.prog 27 [.sl (wks l), .v (.string s)] (.v (.int .i64 (findW l s))) := by
 unfold findW
 refine fn_pure Tryz.F27 (Nat.le_of_ble_eq_true rfl) ?_; unfold Tryz.ac27 AR AM AO
 repeat' (first
  | (apply Awp.sreg; (case hn => (simp only [List.length_cons, List.length_nil, Nat.reduceAdd] <;> rfl)))
  | (refine st_nil ?_)
  | (apply st_a; (case hc => rfl); (case he => (simp only [go_sem, *] <;> rfl)); (case hu => (simp only [updL_nil, updL_cons] <;> rfl)); (case hp => first | trivial))
  | refine Awp.block ?_
  | refine Awp.seq ?_)
 refine Awp.loop (fun i : Nat => i ≤ l.length ∧ ∀ j, j < i → isN s (l.getD j zeroWk) = false) 40 (fun i => mkS [(0, .sl (wks l)), (1, .v (.string s)), (5, .v (.int .i64 i))] []) (fun i => l.length - i) 0 (by simp) ?_ ?_
 ·(apply Ghost.mk [] []; (case hdead => rfl); (case hinj => rfl); (case hV => (simp only [go_sem, *]) <;> (repeat' (first | exact View.int (by first | rfl | omega | (simp; done) | (rw [wrap_i64] <;> (try simp only [Int.natCast_add]) <;> omega) | (simp [*]; done))))); (case hB => (simp only [go_sem, *]) <;> (repeat' (first | skip; done))))
 ·intro i ⟨hi, hj⟩
  by_cases hlt : i < l.length
  ·have hlt' : (i : Int) < l.length := by omega
   have hat := wks_at l i hlt
   have hz : ((l.getD i zeroWk).cells).length = 5 := rfl
   cases hp : isN s (l.getD i zeroWk)
   ·have hnx := ltSucc hj hp
    unfold isN at hp
    clear hj
    repeat' (first
  | (apply Awp.sreg; (case hn => (simp only [List.length_cons, List.length_nil, Nat.reduceAdd] <;> rfl)))
  | (refine st_nil ?_)
  | (apply st_a; (case hc => rfl); (case he => (simp only [go_sem, *] <;> rfl)); (case hu => (simp only [updL_nil, updL_cons] <;> rfl)); (case hp => first | trivial | omega))
  | (apply Awp.reg; (case hn => (simp only [List.length_cons, List.length_nil, Nat.reduceAdd] <;> rfl)))
  | (refine Awp.skip ?_; try simp only [go_sem, *])
  | refine Awp.block ?_
  | (apply Awp.cond; (case hc => (simp only [go_sem, *] <;> rfl)); all_goals (intro hg; (try simp only [Bool.not_true, Bool.not_false, reduceCtorEq] at hg)))
  | refine Awp.seq ?_)
    refine ⟨i + 1, ⟨by omega, hnx⟩, by omega, ?_⟩
    clear hnx
    (apply Ghost.mk [] []; (case hdead => rfl); (case hinj => rfl); (case hV => (simp only [go_sem, *]) <;> (repeat' (first | exact View.int (by first | rfl | omega | (simp; done) | (rw [wrap_i64] <;> (try simp only [Int.natCast_add]) <;> omega) | (simp [*]; done))))); (case hB => (simp only [go_sem, *]) <;> (repeat' (first | skip; done))))
   ·have hx := idxF_in hlt hp hj
    unfold isN at hp
    clear hj
    repeat' (first
  | (apply Awp.sreg; (case hn => (simp only [List.length_cons, List.length_nil, Nat.reduceAdd] <;> rfl)))
  | (refine st_nil ?_)
  | (apply st_a; (case hc => rfl); (case he => (simp only [go_sem, *] <;> rfl)); (case hu => (simp only [updL_nil, updL_cons] <;> rfl)); (case hp => first | trivial | omega))
  | (refine Awp.ret ?_; try simp only [go_sem, *])
  | (refine Awp.skip ?_; try simp only [go_sem, *])
  | refine Awp.block ?_
  | (apply Awp.cond; (case hc => (simp only [go_sem, *] <;> rfl)); all_goals (intro hg; (try simp only [Bool.not_true, Bool.not_false, reduceCtorEq] at hg)))
  | refine Awp.seq ?_)
    all_goals repeat' (first | exact Lower.int (by first | rfl | (simp only [true_and, Bool.true_and, Bool.false_and, Bool.and_true, Bool.and_false, Bool.true_or, Bool.false_or, reduceIte, Bool.false_eq_true, *]; done) | (simp only [true_and, reduceIte, Bool.false_eq_true, *] <;> rfl) | (simp [true_and]; done) | (simp_all [true_and]; done) | omega))
  ·have hlt' : ¬ (i : Int) < l.length := by omega
   have hx := idxF_out (Nat.le_of_not_lt hlt) hj
   clear hj
   repeat' (first
  | (apply Awp.sreg; (case hn => (simp only [List.length_cons, List.length_nil, Nat.reduceAdd] <;> rfl)))
  | (refine st_nil ?_)
  | (apply st_a; (case hc => rfl); (case he => (simp only [go_sem, *] <;> rfl)); (case hu => (simp only [updL_nil, updL_cons] <;> rfl)); (case hp => first | trivial))
  | (refine Awp.ret ?_; try simp only [go_sem, *])
  | (refine Awp.exit ?_; try simp only [go_sem, *])
  | (apply Awp.cond; (case hc => (simp only [go_sem, *] <;> rfl)); all_goals (intro hg; (try simp only [Bool.not_true, Bool.not_false, reduceCtorEq] at hg); (try have hg' := hg); (try simp only [decide_eq_true_eq, decide_eq_false_iff_not, Bool.and_eq_true, Bool.or_eq_false_iff, bne_iff_ne, bne_eq_false_iff_eq, beq_iff_eq, beq_eq_false_iff_ne, Int.not_lt, Int.not_le, Int.ofNat_lt, Int.ofNat_le, Int.natCast_inj] at hg')))
  | refine Awp.seq ?_)
   all_goals repeat' (first | exact Lower.int (by first | rfl | (simp only [true_and, Bool.true_and, Bool.false_and, Bool.and_true, Bool.and_false, Bool.true_or, Bool.false_or, reduceIte, Bool.false_eq_true, *]; done) | (simp only [true_and, reduceIte, Bool.false_eq_true, *] <;> rfl) | (simp [true_and]; done) | (simp_all [true_and]; done) | omega))
theorem findW_lt {l : List Wk} {s : ByteArray} : findW l s < 0 ↔ hasK (ids l) s = false := by
 unfold findW hasK ids
 rw [List.any_eq_false]
 constructor
 ·intro h x hx
  obtain ⟨q, hq, rfl⟩ := List.mem_map.1 hx
  intro e
  unfold idxF at h
  split at h
  ·omega
  ·rename_i h2
   have := List.findIdx_eq_length.1 (Nat.le_antisymm List.findIdx_le_length (Nat.le_of_not_lt h2)) q hq
   unfold isN at this
   rw [beq_eq_false_iff_ne] at this
   have e : s.toList = q.id.toList := by simpa using e
   exact this e.symm
 ·intro h
  have e : l.findIdx (isN s) = l.length := List.findIdx_eq_length.2 fun q hq => by
   have := h q.id (List.mem_map.2 ⟨q, hq, rfl⟩)
   unfold isN
   rw [beq_eq_false_iff_ne]
   intro e; exact this (by simp [e])
  unfold idxF
  rw [if_neg (by omega)]; decide
theorem hasK_take {l : List Wk} {i : Nat} {s : ByteArray} (hi : i ≤ l.length) : hasK (ids (l.take i)) s = true ↔ ∃ j, j < i ∧ isN s (l.getD j zeroWk) = true := by
 unfold hasK ids isN
 rw [List.any_eq_true]
 constructor
 ·rintro ⟨x, hx, e⟩
  obtain ⟨q, hq, rfl⟩ := List.mem_map.1 hx
  obtain ⟨j, hj, rfl⟩ := List.getElem_of_mem hq
  have hj' : j < i := by simp at hj; omega
  refine ⟨j, hj', ?_⟩
  have hjl : j < l.length := by omega
  simp only [List.getElem_take] at e
  rw [List.getD_eq_getElem?_getD, List.getElem?_eq_getElem hjl]
  have e : s.toList = l[j].id.toList := by simpa using e
  simpa using e.symm
 ·rintro ⟨j, hj, e⟩
  have hjl : j < l.length := by omega
  refine ⟨(l.getD j zeroWk).id, List.mem_map.2 ⟨l.getD j zeroWk, ?_, rfl⟩, ?_⟩
  ·rw [List.getD_eq_getElem?_getD, List.getElem?_eq_getElem hjl]
   exact List.mem_iff_getElem.2 ⟨j, by simp; omega, by simp⟩
  ·have e : (l.getD j zeroWk).id.toList = s.toList := by simpa using e
   simpa using e.symm
theorem findW_self {l : List Wk} {i : Nat} (hi : i < l.length) : findW l (l.getD i zeroWk).id < i ↔ hasK (ids (l.take i)) (l.getD i zeroWk).id = true := by
 rw [hasK_take (Nat.le_of_lt hi)]
 have hself : isN (l.getD i zeroWk).id (l.getD i zeroWk) = true := by unfold isN; simp
 generalize (l.getD i zeroWk).id = s at *
 have hm : l.findIdx (isN s) < l.length := List.findIdx_lt_length_of_exists ⟨l.getD i zeroWk, getD_mem _ hi, hself⟩
 have hpm : isN s (l.getD (l.findIdx (isN s)) zeroWk) = true := by
  have := List.findIdx_getElem (p := isN s) (w := hm)
  simpa [List.getD_eq_getElem?_getD, hm] using this
 have he : findW l s = (l.findIdx (isN s) : Int) := by unfold findW idxF; rw [if_pos hm]
 rw [he]
 constructor
 ·intro h
  exact ⟨_, by omega, hpm⟩
 ·rintro ⟨j, hj, e⟩
  have : ¬ j < l.findIdx (isN s) := fun h => by
   have := List.not_of_lt_findIdx h
   rw [List.getD_eq_getElem?_getD, List.getElem?_eq_getElem (by omega)] at e
   rw [Option.getD_some] at e
   rw [e] at this
   cases this
  omega
def rngR (q : Wk) : Bool := decide (q.hr < 1) || decide ((1048576 : Int) < q.hr) || decide (q.len < 1) || decide ((524288 : Int) < q.len) || decide (q.wid < 1) || decide ((524288 : Int) < q.wid)
theorem rngR_eq (q : Wk) : rngW q = rngR q := by
 unfold rngW rngR
 rw [Bool.eq_iff_iff]
 simp only [Bool.or_eq_true, Bool.not_eq_true', Bool.and_eq_false_iff, decide_eq_false_iff_not, decide_eq_true_eq]
 omega
def rc1 (l : List Wk) (i : Nat) : AState := mkS [(0, .sl (wks l)), (3, .v (.int .i64 i))] []
def rc2 (l : List Wk) (i : Nat) : AState := mkS [(0, .sl (wks l)), (5, .v (.int .i64 i))] []
def rc3 (l : List Wk) (i k : Nat) : AState := mkS [(0, .sl (wks l)), (5, .v (.int .i64 i)), (6, .v (.int .i64 k))] []
theorem rchk_ok (l : List Wk) (hl : l.length < 1000000) (ha : ∀ q ∈ l, q.af.length < 1000000 ∧ q.id.size < 1000000) : Pure Tryz.prog 25 [.sl (wks l)] (.v (.int .i64 (jobsE l))) := by
 by_cases hlong : (l.length : Int) > 128
 ·have hE := jobsE_long hlong
  clear ha
  refine fn_pure Tryz.F25 (Nat.le_of_ble_eq_true rfl) ?_; unfold Tryz.ac25 AR AM AO
  repeat' (first
  | (apply Awp.sreg; (case hn => (simp only [List.length_cons, List.length_nil, Nat.reduceAdd] <;> rfl)))
  | (refine st_nil ?_)
  | (apply st_a; (case hc => rfl); (case he => (simp only [go_sem, *] <;> rfl)); (case hu => (simp only [updL_nil, updL_cons] <;> rfl)); (case hp => first | trivial))
  | (refine Awp.ret ?_; try simp only [go_sem, *])
  | (apply Awp.cond; (case hc => (simp only [go_sem, *] <;> rfl)); all_goals (intro hg; (try simp only [Bool.not_true, Bool.not_false, reduceCtorEq] at hg); (try have hg' := hg); (try simp only [decide_eq_true_eq, decide_eq_false_iff_not, Bool.and_eq_true, Bool.or_eq_false_iff, bne_iff_ne, bne_eq_false_iff_eq, beq_iff_eq, beq_eq_false_iff_ne, Int.not_lt, Int.not_le, Int.ofNat_lt, Int.ofNat_le, Int.natCast_inj] at hg')))
  | refine Awp.seq ?_)
  all_goals repeat' (first | exact Lower.int (by first | rfl | (simp only [true_and, Bool.true_and, Bool.false_and, Bool.and_true, Bool.and_false, Bool.true_or, Bool.false_or, reduceIte, Bool.false_eq_true, *]; done) | (simp only [true_and, reduceIte, Bool.false_eq_true, *] <;> rfl) | (simp [true_and]; done) | (simp_all [true_and]; done) | omega))
 refine fn_pure Tryz.F25 (Nat.le_of_ble_eq_true rfl) ?_; unfold Tryz.ac25 AR AM AO
 repeat' (first
  | (apply Awp.sreg; (case hn => (simp only [List.length_cons, List.length_nil, Nat.reduceAdd] <;> rfl)))
  | (refine st_nil ?_)
  | (apply st_a; (case hc => rfl); (case he => (simp only [go_sem, *] <;> rfl)); (case hu => (simp only [updL_nil, updL_cons] <;> rfl)); (case hp => first | trivial))
  | (refine Awp.skip ?_; try simp only [go_sem, *])
  | refine Awp.block ?_
  | (apply Awp.cond; (case hc => (simp only [go_sem, *] <;> rfl)); all_goals (intro hg; (try simp only [Bool.not_true, Bool.not_false, reduceCtorEq] at hg)))
  | refine Awp.seq ?_)
 refine Awp.loop (fun i : Nat => i ≤ l.length ∧ ∀ j, j < i → badW l j = 0) 200 (fun i => rc1 l i) (fun i => l.length - i) 0 (by simp) ?_ ?_
 ·unfold rc1
  (apply Ghost.mk [] []; (case hdead => rfl); (case hinj => rfl); (case hV => (simp only [go_sem, *]) <;> (repeat' (first | exact View.int (by first | rfl | omega | (simp; done) | (rw [wrap_i64] <;> (try simp only [Int.natCast_add]) <;> omega) | (simp [*]; done))))); (case hB => (simp only [go_sem, *]) <;> (repeat' (first | skip; done))))
 ·intro i ⟨hi, hj⟩
  by_cases hlt : i < l.length
  ·have hlt' : (i : Int) < l.length := by omega
   have hat := wks_at l i hlt
   have hz : ((l.getD i zeroWk).cells).length = 5 := rfl
   have c0 := risid_ok (l.getD i zeroWk).id (ha _ (getD_mem _ hlt)).2
   have c1 := wfind_ok l (l.getD i zeroWk).id hl
   have hbad : ∀ {e : Int}, badW l i = e → e ≠ 0 → jobsE l = e := fun h he => by
    have := firstE_bad hlt (by rw [h]; exact he) hj
    rw [jobsE_bad hlong (by rw [this, h]; exact he), this, h]
   have hs : badW l i = if !idB (l.getD i zeroWk).id then 6 else if hasK (ids (l.take i)) (l.getD i zeroWk).id then 7 else if rngW (l.getD i zeroWk) then 9 else 0 := rfl
   have hfs := @findW_self l i hlt
   clear hlong ha
   cases h1 : idB (l.getD i zeroWk).id
   ·rw [h1] at hs c0
    have hf := hbad (e := 6) (by rw [hs]; rfl) (by decide)
    clear hbad hs hj hfs
    unfold rc1
    repeat' (first
  | (apply Awp.sreg; (case hn => (simp only [List.length_cons, List.length_nil, Nat.reduceAdd] <;> rfl)))
  | (refine st_nil ?_)
  | (apply st_a; (case hc => rfl); (case he => (simp only [go_sem, *] <;> rfl)); (case hu => (simp only [updL_nil, updL_cons] <;> rfl)); (case hp => first | trivial | omega))
  | (apply st_c; (case hc => (simp only [go_sem, *] <;> rfl)); (case hl => (simp only [go_sem, *] <;> rfl)); (case hn => (simp only [go_sem, *] <;> rfl)); (case hp => first | exact c0 | (have hXz := c0; simp only [go_sem, *] at hXz; exact hXz)))
  | (refine Awp.ret ?_; try simp only [go_sem, *])
  | (refine Awp.skip ?_; try simp only [go_sem, *])
  | refine Awp.block ?_
  | (apply Awp.cond; (case hc => (simp only [go_sem, *] <;> rfl)); all_goals (intro hg; (try simp only [Bool.not_true, Bool.not_false, reduceCtorEq] at hg)))
  | refine Awp.seq ?_)
    all_goals repeat' (first | exact Lower.int (by first | rfl | (simp only [true_and, Bool.true_and, Bool.false_and, Bool.and_true, Bool.and_false, Bool.true_or, Bool.false_or, reduceIte, Bool.false_eq_true, *]; done) | (simp only [true_and, reduceIte, Bool.false_eq_true, *] <;> rfl) | (simp [true_and]; done) | (simp_all [true_and]; done) | omega))
   rw [h1] at hs c0
   cases h2 : hasK (ids (l.take i)) (l.getD i zeroWk).id
   case true =>
    rw [h2] at hs hfs
    have hfs' := hfs.2 rfl
    have hf := hbad (e := 7) (by rw [hs]; rfl) (by decide)
    clear hbad hs hj h2 hfs
    generalize findW l (l.getD i zeroWk).id = F at *
    unfold rc1
    repeat' (first
  | (apply Awp.sreg; (case hn => (simp only [List.length_cons, List.length_nil, Nat.reduceAdd] <;> rfl)))
  | (refine st_nil ?_)
  | (apply st_a; (case hc => rfl); (case he => (simp only [go_sem, *] <;> rfl)); (case hu => (simp only [updL_nil, updL_cons] <;> rfl)); (case hp => first | trivial | omega))
  | (apply st_c; (case hc => (simp only [go_sem, *] <;> rfl)); (case hl => (simp only [go_sem, *] <;> rfl)); (case hn => (simp only [go_sem, *] <;> rfl)); (case hp => first | exact c0 | (have hXz := c0; simp only [go_sem, *] at hXz; exact hXz)))
  | (apply st_c; (case hc => (simp only [go_sem, *] <;> rfl)); (case hl => (simp only [go_sem, *] <;> rfl)); (case hn => (simp only [go_sem, *] <;> rfl)); (case hp => first | exact c1 | (have hXz := c1; simp only [go_sem, *] at hXz; exact hXz)))
  | (refine Awp.ret ?_; try simp only [go_sem, *])
  | (refine Awp.skip ?_; try simp only [go_sem, *])
  | refine Awp.block ?_
  | (apply Awp.cond; (case hc => (simp only [go_sem, *] <;> rfl)); all_goals (intro hg; (try simp only [Bool.not_true, Bool.not_false, reduceCtorEq] at hg)))
  | refine Awp.seq ?_)
    all_goals repeat' (first | exact Lower.int (by first | rfl | (simp only [true_and, Bool.true_and, Bool.false_and, Bool.and_true, Bool.and_false, Bool.true_or, Bool.false_or, reduceIte, Bool.false_eq_true, *]; done) | (simp only [true_and, reduceIte, Bool.false_eq_true, *] <;> rfl) | (simp [true_and]; done) | (simp_all [true_and]; done) | omega))
   rw [h2] at hs hfs
   have hfs' : ¬ findW l (l.getD i zeroWk).id < i := fun h => by have := hfs.1 h; cases this
   clear h2 hfs
   generalize findW l (l.getD i zeroWk).id = F at *
   cases h3 : rngW (l.getD i zeroWk)
   case true =>
    rw [h3] at hs
    have hf := hbad (e := 9) (by rw [hs]; rfl) (by decide)
    clear hbad hs hj
    rw [rngR_eq] at h3
    unfold rngR at h3
    unfold rc1
    repeat' (first
  | (apply Awp.sreg; (case hn => (simp only [List.length_cons, List.length_nil, Nat.reduceAdd] <;> rfl)))
  | (refine st_nil ?_)
  | (apply st_a; (case hc => rfl); (case he => (simp only [go_sem, *] <;> rfl)); (case hu => (simp only [updL_nil, updL_cons] <;> rfl)); (case hp => first | trivial | omega))
  | (apply st_m; (case hc => rfl); (case hg => (simp only [go_sem, *] <;> rfl)); (case he => (intro hQz; (try simp only [wantB_t, wantB_f, Bool.and_eq_true, Bool.not_eq_true', Bool.not_true, Bool.not_false, and_true, true_and] at hQz); simp only [go_sem, *] <;> rfl)); (case hp => (intro hQz; (try simp only [wantB_t, wantB_f, Bool.and_eq_true, Bool.not_eq_true', Bool.or_eq_false_iff, decide_eq_true_eq, decide_eq_false_iff_not, beq_iff_eq, beq_eq_false_iff_ne, bne_iff_ne, bne_eq_false_iff_eq, Int.not_lt, Int.not_le, Int.ofNat_lt, Int.ofNat_le] at hQz); first | trivial)))
  | (apply st_c; (case hc => (simp only [go_sem, *] <;> rfl)); (case hl => (simp only [go_sem, *] <;> rfl)); (case hn => (simp only [go_sem, *] <;> rfl)); (case hp => first | exact c0 | (have hXz := c0; simp only [go_sem, *] at hXz; exact hXz)))
  | (apply st_c; (case hc => (simp only [go_sem, *] <;> rfl)); (case hl => (simp only [go_sem, *] <;> rfl)); (case hn => (simp only [go_sem, *] <;> rfl)); (case hp => first | exact c1 | (have hXz := c1; simp only [go_sem, *] at hXz; exact hXz)))
  | (refine Awp.ret ?_; try simp only [go_sem, *])
  | (refine Awp.skip ?_; try simp only [go_sem, *])
  | refine Awp.block ?_
  | (apply Awp.cond; (case hc => (simp only [go_sem, *] <;> rfl)); all_goals (intro hg; (try simp only [Bool.not_true, Bool.not_false, reduceCtorEq] at hg)))
  | refine Awp.seq ?_)
    all_goals repeat' (first | exact Lower.int (by first | rfl | (simp only [true_and, Bool.true_and, Bool.false_and, Bool.and_true, Bool.and_false, Bool.true_or, Bool.false_or, reduceIte, Bool.false_eq_true, *]; done) | (simp only [true_and, reduceIte, Bool.false_eq_true, *] <;> rfl) | (simp [true_and]; done) | (simp_all [true_and]; done) | omega))
   rw [h3] at hs
   have hnx := ltSucc hj hs
   clear hbad hs hj
   rw [rngR_eq] at h3
   unfold rngR at h3
   unfold rc1
   repeat' (first
  | (apply Awp.sreg; (case hn => (simp only [List.length_cons, List.length_nil, Nat.reduceAdd] <;> rfl)))
  | (refine st_nil ?_)
  | (apply st_a; (case hc => rfl); (case he => (simp only [go_sem, *] <;> rfl)); (case hu => (simp only [updL_nil, updL_cons] <;> rfl)); (case hp => first | trivial | omega))
  | (apply st_m; (case hc => rfl); (case hg => (simp only [go_sem, *] <;> rfl)); (case he => (intro hQz; (try simp only [wantB_t, wantB_f, Bool.and_eq_true, Bool.not_eq_true', Bool.not_true, Bool.not_false, and_true, true_and] at hQz); simp only [go_sem, *] <;> rfl)); (case hp => (intro hQz; (try simp only [wantB_t, wantB_f, Bool.and_eq_true, Bool.not_eq_true', Bool.or_eq_false_iff, decide_eq_true_eq, decide_eq_false_iff_not, beq_iff_eq, beq_eq_false_iff_ne, bne_iff_ne, bne_eq_false_iff_eq, Int.not_lt, Int.not_le, Int.ofNat_lt, Int.ofNat_le] at hQz); first | trivial)))
  | (apply st_c; (case hc => (simp only [go_sem, *] <;> rfl)); (case hl => (simp only [go_sem, *] <;> rfl)); (case hn => (simp only [go_sem, *] <;> rfl)); (case hp => first | exact c0 | (have hXz := c0; simp only [go_sem, *] at hXz; exact hXz)))
  | (apply st_c; (case hc => (simp only [go_sem, *] <;> rfl)); (case hl => (simp only [go_sem, *] <;> rfl)); (case hn => (simp only [go_sem, *] <;> rfl)); (case hp => first | exact c1 | (have hXz := c1; simp only [go_sem, *] at hXz; exact hXz)))
  | (apply Awp.reg; (case hn => (simp only [List.length_cons, List.length_nil, Nat.reduceAdd] <;> rfl)))
  | (refine Awp.skip ?_; try simp only [go_sem, *])
  | refine Awp.block ?_
  | (apply Awp.cond; (case hc => (simp only [go_sem, *] <;> rfl)); all_goals (intro hg; (try simp only [Bool.not_true, Bool.not_false, reduceCtorEq] at hg)))
  | refine Awp.seq ?_)
   refine ⟨i + 1, ⟨by omega, hnx⟩, by omega, ?_⟩
   (apply Ghost.mk [] []; (case hdead => rfl); (case hinj => rfl); (case hV => (simp only [go_sem, *]) <;> (repeat' (first | exact View.int (by first | rfl | omega | (simp; done) | (rw [wrap_i64] <;> (try simp only [Int.natCast_add]) <;> omega) | (simp [*]; done))))); (case hB => (simp only [go_sem, *]) <;> (repeat' (first | skip; done))))
  ·have hlt' : ¬ (i : Int) < l.length := by omega
   have hf := firstE_end (Nat.le_of_not_lt hlt) hj
   clear hj
   obtain rfl : i = l.length := by omega
   unfold rc1
   repeat' (first
  | (apply Awp.sreg; (case hn => (simp only [List.length_cons, List.length_nil, Nat.reduceAdd] <;> rfl)))
  | (refine st_nil ?_)
  | (apply st_a; (case hc => rfl); (case he => (simp only [go_sem, *] <;> rfl)); (case hu => (simp only [updL_nil, updL_cons] <;> rfl)); (case hp => first | trivial))
  | (refine Awp.exit ?_; try simp only [go_sem, *])
  | refine Awp.block ?_
  | (apply Awp.cond; (case hc => (simp only [go_sem, *] <;> rfl)); all_goals (intro hg; (try simp only [Bool.not_true, Bool.not_false, reduceCtorEq] at hg)))
  | refine Awp.seq ?_)
   refine Awp.loop (fun i : Nat => i ≤ l.length ∧ ∀ j, j < i → wantB l (l.getD j zeroWk) = true) 300 (fun i => rc2 l i) (fun i => l.length - i) 0 (by simp) ?_ ?_
   ·unfold rc2
    (apply Ghost.mk [] []; (case hdead => rfl); (case hinj => rfl); (case hV => (simp only [go_sem, *]) <;> (repeat' (first | exact View.int (by first | rfl | omega | (simp; done) | (rw [wrap_i64] <;> (try simp only [Int.natCast_add]) <;> omega) | (simp [*]; done))))); (case hB => (simp only [go_sem, *]) <;> (repeat' (first | skip; done))))
   ·intro i ⟨hi, hj⟩
    by_cases hlt : i < l.length
    ·have hlt' : (i : Int) < l.length := by omega
     have hat := wks_at l i hlt
     have hz : ((l.getD i zeroWk).cells).length = 5 := rfl
     have hal : (l.getD i zeroWk).af.length < 1000000 := (ha _ (getD_mem _ hlt)).1
     have hwb := jobsE_want hlong hf i hlt
     clear hf ha
     unfold rc2
     repeat' (first
  | (apply Awp.sreg; (case hn => (simp only [List.length_cons, List.length_nil, Nat.reduceAdd] <;> rfl)))
  | (refine st_nil ?_)
  | (apply st_a; (case hc => rfl); (case he => (simp only [go_sem, *] <;> rfl)); (case hu => (simp only [updL_nil, updL_cons] <;> rfl)); (case hp => first | trivial))
  | (refine Awp.skip ?_; try simp only [go_sem, *])
  | refine Awp.block ?_
  | (apply Awp.cond; (case hc => (simp only [go_sem, *] <;> rfl)); all_goals (intro hg; (try simp only [Bool.not_true, Bool.not_false, reduceCtorEq] at hg)))
  | refine Awp.seq ?_)
     refine Awp.loop (fun k : Nat => k ≤ (l.getD i zeroWk).af.length ∧ ∀ j, j < k → hasK (ids l) ((l.getD i zeroWk).af.getD j ⟨#[]⟩) = true) 400 (fun k => rc3 l i k) (fun k => (l.getD i zeroWk).af.length - k) 0 (by simp) ?_ ?_
     ·unfold rc3
      (apply Ghost.mk [] []; (case hdead => rfl); (case hinj => rfl); (case hV => (simp only [go_sem, *]) <;> (repeat' (first | exact View.int (by first | rfl | omega | (simp; done) | (rw [wrap_i64] <;> (try simp only [Int.natCast_add]) <;> omega) | (simp [*]; done))))); (case hB => (simp only [go_sem, *]) <;> (repeat' (first | skip; done))))
     ·intro k ⟨hk, hkj⟩
      by_cases hkt : k < (l.getD i zeroWk).af.length
      ·have hkt' : (k : Int) < (l.getD i zeroWk).af.length := by omega
       have hsat := strs_at (l.getD i zeroWk).af k hkt
       have c1 := wfind_ok l ((l.getD i zeroWk).af.getD k ⟨#[]⟩) hl
       have hfl := @findW_lt l ((l.getD i zeroWk).af.getD k ⟨#[]⟩)
       cases h2 : hasK (ids l) ((l.getD i zeroWk).af.getD k ⟨#[]⟩)
       ·have hfl' := hfl.2 h2
        have hE := hwb (want_bad hkt h2)
        clear h2 hkj hj hwb hfl
        generalize findW l ((l.getD i zeroWk).af.getD k ⟨#[]⟩) = F at *
        unfold rc3
        repeat' (first
  | (apply Awp.sreg; (case hn => (simp only [List.length_cons, List.length_nil, Nat.reduceAdd] <;> rfl)))
  | (refine st_nil ?_)
  | (apply st_a; (case hc => rfl); (case he => (simp only [go_sem, *] <;> rfl)); (case hu => (simp only [updL_nil, updL_cons] <;> rfl)); (case hp => first | trivial | omega))
  | (apply st_c; (case hc => (simp only [go_sem, *] <;> rfl)); (case hl => (simp only [go_sem, *] <;> rfl)); (case hn => (simp only [go_sem, *] <;> rfl)); (case hp => first | exact c1 | (have hXz := c1; simp only [go_sem, *] at hXz; exact hXz)))
  | (refine Awp.ret ?_; try simp only [go_sem, *])
  | (refine Awp.skip ?_; try simp only [go_sem, *])
  | refine Awp.block ?_
  | (apply Awp.cond; (case hc => (simp only [go_sem, *] <;> rfl)); all_goals (intro hg; (try simp only [Bool.not_true, Bool.not_false, reduceCtorEq] at hg)))
  | refine Awp.seq ?_)
        all_goals repeat' (first | exact Lower.int (by first | rfl | (simp only [true_and, Bool.true_and, Bool.false_and, Bool.and_true, Bool.and_false, Bool.true_or, Bool.false_or, reduceIte, Bool.false_eq_true, *]; done) | (simp only [true_and, reduceIte, Bool.false_eq_true, *] <;> rfl) | (simp [true_and]; done) | (simp_all [true_and]; done) | omega))
       ·have hfl' : ¬ findW l ((l.getD i zeroWk).af.getD k ⟨#[]⟩) < 0 := fun h => by rw [hfl.1 h] at h2; cases h2
        have hnx := ltSucc hkj h2
        clear h2 hkj hj hwb hfl
        generalize findW l ((l.getD i zeroWk).af.getD k ⟨#[]⟩) = F at *
        unfold rc3
        repeat' (first
  | (apply Awp.sreg; (case hn => (simp only [List.length_cons, List.length_nil, Nat.reduceAdd] <;> rfl)))
  | (refine st_nil ?_)
  | (apply st_a; (case hc => rfl); (case he => (simp only [go_sem, *] <;> rfl)); (case hu => (simp only [updL_nil, updL_cons] <;> rfl)); (case hp => first | trivial | omega))
  | (apply st_c; (case hc => (simp only [go_sem, *] <;> rfl)); (case hl => (simp only [go_sem, *] <;> rfl)); (case hn => (simp only [go_sem, *] <;> rfl)); (case hp => first | exact c1 | (have hXz := c1; simp only [go_sem, *] at hXz; exact hXz)))
  | (apply Awp.reg; (case hn => (simp only [List.length_cons, List.length_nil, Nat.reduceAdd] <;> rfl)))
  | (refine Awp.skip ?_; try simp only [go_sem, *])
  | refine Awp.block ?_
  | (apply Awp.cond; (case hc => (simp only [go_sem, *] <;> rfl)); all_goals (intro hg; (try simp only [Bool.not_true, Bool.not_false, reduceCtorEq] at hg)))
  | refine Awp.seq ?_)
        refine ⟨k + 1, ⟨by omega, hnx⟩, by omega, ?_⟩
        (apply Ghost.mk [] []; (case hdead => rfl); (case hinj => rfl); (case hV => (simp only [go_sem, *]) <;> (repeat' (first | exact View.int (by first | rfl | omega | (simp; done) | (rw [wrap_i64] <;> (try simp only [Int.natCast_add]) <;> omega) | (simp [*]; done))))); (case hB => (simp only [go_sem, *]) <;> (repeat' (first | skip; done))))
      ·have hkt' : ¬ (k : Int) < (l.getD i zeroWk).af.length := by omega
       have hnx := ltSucc hj (want_end (Nat.le_of_not_lt hkt) hkj)
       clear hkj hj hwb
       unfold rc3
       repeat' (first
  | (apply Awp.sreg; (case hn => (simp only [List.length_cons, List.length_nil, Nat.reduceAdd] <;> rfl)))
  | (refine st_nil ?_)
  | (apply st_a; (case hc => rfl); (case he => (simp only [go_sem, *] <;> rfl)); (case hu => (simp only [updL_nil, updL_cons] <;> rfl)); (case hp => first | trivial | omega))
  | (apply Awp.reg; (case hn => (simp only [List.length_cons, List.length_nil, Nat.reduceAdd] <;> rfl)))
  | (refine Awp.exit ?_; try simp only [go_sem, *])
  | (apply Awp.cond; (case hc => (simp only [go_sem, *] <;> rfl)); all_goals (intro hg; (try simp only [Bool.not_true, Bool.not_false, reduceCtorEq] at hg)))
  | refine Awp.seq ?_)
       refine ⟨i + 1, ⟨by omega, hnx⟩, by omega, ?_⟩
       (apply Ghost.mk [] []; (case hdead => rfl); (case hinj => rfl); (case hV => (simp only [go_sem, *]) <;> (repeat' (first | exact View.int (by first | rfl | omega | (simp; done) | (rw [wrap_i64] <;> (try simp only [Int.natCast_add]) <;> omega) | (simp [*]; done))))); (case hB => (simp only [go_sem, *]) <;> (repeat' (first | skip; done))))
    ·have hlt' : ¬ (i : Int) < l.length := by omega
     have hE := jobsE_ok hlong hf fun j hjl => hj j (by omega)
     clear hj ha
     unfold rc2
     repeat' (first
  | (apply Awp.sreg; (case hn => (simp only [List.length_cons, List.length_nil, Nat.reduceAdd] <;> rfl)))
  | (refine st_nil ?_)
  | (apply st_a; (case hc => rfl); (case he => (simp only [go_sem, *] <;> rfl)); (case hu => (simp only [updL_nil, updL_cons] <;> rfl)); (case hp => first | trivial))
  | (refine Awp.ret ?_; try simp only [go_sem, *])
  | (refine Awp.exit ?_; try simp only [go_sem, *])
  | (apply Awp.cond; (case hc => (simp only [go_sem, *] <;> rfl)); all_goals (intro hg; (try simp only [Bool.not_true, Bool.not_false, reduceCtorEq] at hg)))
  | refine Awp.seq ?_)
     all_goals repeat' (first | exact Lower.int (by first | rfl | (simp only [true_and, Bool.true_and, Bool.false_and, Bool.and_true, Bool.and_false, Bool.true_or, Bool.false_or, reduceIte, Bool.false_eq_true, *]; done) | (simp only [true_and, reduceIte, Bool.false_eq_true, *] <;> rfl) | (simp [true_and]; done) | (simp_all [true_and]; done) | omega))
def hasD (done : List ByteArray) (s : ByteArray) : Bool := done.any (fun x => x.toList == s.toList)
def readyR (af done : List ByteArray) : Bool := af.all (hasD done)
theorem hasD_step (D : List ByteArray) (s : ByteArray) (k : Nat) (h : k < D.length) : hasD (D.take (k + 1)) s = (hasD (D.take k) s || ((D.getD k ⟨#[]⟩).toList == s.toList)) := by
 unfold hasD
 rw [List.take_add_one, List.getElem?_eq_getElem h, List.any_append]
 simp [List.getD_eq_getElem?_getD, h]
theorem ready_bad {af D : List ByteArray} {i : Nat} (hi : i < af.length) (h : hasD D (af.getD i ⟨#[]⟩) = false) : readyR af D = false := by
 unfold readyR
 rw [List.all_eq_false]
 refine ⟨af.getD i ⟨#[]⟩, getD_mem _ hi, by simp only [h, Bool.false_eq_true, not_false_eq_true]⟩
theorem ready_end {af D : List ByteArray} {i : Nat} (hi : af.length ≤ i) (h : ∀ j, j < i → hasD D (af.getD j ⟨#[]⟩) = true) : readyR af D = true := by
 unfold readyR
 rw [List.all_eq_true]
 intro x hx
 obtain ⟨j, hj, rfl⟩ := List.getElem_of_mem hx
 have := h j (by omega)
 rwa [List.getD_eq_getElem?_getD, List.getElem?_eq_getElem hj] at this
theorem ready_ok (af D : List ByteArray) (h1 : af.length < 1000000) (h2 : D.length < 1000000) : Pure Tryz.prog 26 [.sl (strs af), .sl (strs D)] (.v (.bool (readyR af D))) := by
 refine fn_pure Tryz.F26 (Nat.le_of_ble_eq_true rfl) ?_; unfold Tryz.ac26 AR AM AO
 repeat' (first
  | (apply Awp.sreg; (case hn => (simp only [List.length_cons, List.length_nil, Nat.reduceAdd] <;> rfl)))
  | (refine st_nil ?_)
  | (apply st_a; (case hc => rfl); (case he => (simp only [go_sem, *] <;> rfl)); (case hu => (simp only [updL_nil, updL_cons] <;> rfl)); (case hp => first | trivial))
  | refine Awp.block ?_
  | refine Awp.seq ?_)
 refine Awp.loop (fun i : Nat => i ≤ af.length ∧ ∀ j, j < i → hasD D (af.getD j ⟨#[]⟩) = true) 100 (fun i => mkS [(0, .sl (strs af)), (1, .sl (strs D)), (5, .v (.int .i64 i))] []) (fun i => af.length - i) 0 (by simp) ?_ ?_
 ·(apply Ghost.mk [] []; (case hdead => rfl); (case hinj => rfl); (case hV => (simp only [go_sem, *]) <;> (repeat' (first | exact View.int (by first | rfl | omega | (simp; done) | (rw [wrap_i64] <;> (try simp only [Int.natCast_add]) <;> omega) | (simp [*]; done))))); (case hB => (simp only [go_sem, *]) <;> (repeat' (first | skip; done))))
 ·intro i ⟨hi, hj⟩
  by_cases hlt : i < af.length
  ·have hlt' : (i : Int) < af.length := by omega
   have hat := strs_at af i hlt
   have hrb := @ready_bad af D i hlt
   repeat' (first
  | (apply Awp.sreg; (case hn => (simp only [List.length_cons, List.length_nil, Nat.reduceAdd] <;> rfl)))
  | (refine st_nil ?_)
  | (apply st_a; (case hc => rfl); (case he => (simp only [go_sem, *] <;> rfl)); (case hu => (simp only [updL_nil, updL_cons] <;> rfl)); (case hp => first | trivial))
  | (refine Awp.skip ?_; try simp only [go_sem, *])
  | refine Awp.block ?_
  | (apply Awp.cond; (case hc => (simp only [go_sem, *] <;> rfl)); all_goals (intro hg; (try simp only [Bool.not_true, Bool.not_false, reduceCtorEq] at hg)))
  | refine Awp.seq ?_)
   refine Awp.loop (fun k : Nat => k ≤ D.length) 200 (fun k => mkS [(0, .sl (strs af)), (1, .sl (strs D)), (5, .v (.int .i64 i)), (6, .v (.bool (hasD (D.take k) (af.getD i ⟨#[]⟩)))), (7, .v (.int .i64 k))] []) (fun k => D.length - k) 0 (Nat.zero_le _) ?_ ?_
   ·have e1 : hasD (D.take 0) (af.getD i ⟨#[]⟩) = false := rfl
    rw [e1]
    clear hrb hj
    (apply Ghost.mk [] []; (case hdead => rfl); (case hinj => rfl); (case hV => (simp only [go_sem, *]) <;> (repeat' (first | exact View.int (by first | rfl | omega | (simp; done) | (rw [wrap_i64] <;> (try simp only [Int.natCast_add]) <;> omega) | (simp [*]; done))))); (case hB => (simp only [go_sem, *]) <;> (repeat' (first | skip; done))))
   ·intro k hk
    by_cases hkt : k < D.length
    ·have hkt' : (k : Int) < D.length := by omega
     have hkat := strs_at D k hkt
     have hst := hasD_step D (af.getD i ⟨#[]⟩) k hkt
     clear hrb hj
     generalize hasD (D.take k) (af.getD i ⟨#[]⟩) = o at *
     cases o
     ·rw [Bool.false_or] at hst
      repeat' (first
  | (apply Awp.sreg; (case hn => (simp only [List.length_cons, List.length_nil, Nat.reduceAdd] <;> rfl)))
  | (refine st_nil ?_)
  | (apply st_a; (case hc => rfl); (case he => (simp only [go_sem, *] <;> rfl)); (case hu => (simp only [updL_nil, updL_cons] <;> rfl)); (case hp => first | trivial))
  | (apply Awp.reg; (case hn => (simp only [List.length_cons, List.length_nil, Nat.reduceAdd] <;> rfl)))
  | (refine Awp.skip ?_; try simp only [go_sem, *])
  | refine Awp.block ?_
  | (apply Awp.cond; (case hc => (simp only [go_sem, *] <;> rfl)); all_goals (intro hg; (try simp only [Bool.not_true, Bool.not_false, reduceCtorEq] at hg)))
  | refine Awp.seq ?_
  | (refine Awp.draw ?_)
  | (apply sl_a; (case hc => rfl); (case he => (simp only [go_sem, *] <;> rfl)); (case hu => (simp only [updL_nil, updL_cons] <;> rfl)); (case hl => (simp only [List.map_cons, List.map_nil] <;> rfl)); (case hp => first | trivial))
  | (apply sl_ga; (case hb => rfl); (case hv => (simp only [go_sem, *] <;> rfl)); (case he => (simp only [go_sem, *] <;> rfl)); (case hu => (simp only [updL_nil, updL_cons] <;> rfl)); (case hl => (simp only [List.map_cons, List.map_nil] <;> rfl)); (case hp => first | trivial | omega))
  | (refine sl_nil (And.intro (by first | exact drawOk_of (by decide +kernel) | (simp only [List.map_cons, List.map_nil]; exact drawOk_of (by decide +kernel)) | decide) ?_)))
      refine ⟨k + 1, by omega, by omega, ?_⟩
      (apply Ghost.mk [] []; (case hdead => rfl); (case hinj => rfl); (case hV => (simp only [go_sem, *]) <;> (repeat' (first | exact View.int (by first | rfl | omega | (simp; done) | (rw [wrap_i64] <;> (try simp only [Int.natCast_add]) <;> omega) | (simp [*]; done))))); (case hB => (simp only [go_sem, *]) <;> (repeat' (first | skip; done))))
     ·rw [Bool.true_or] at hst
      repeat' (first
  | (apply Awp.sreg; (case hn => (simp only [List.length_cons, List.length_nil, Nat.reduceAdd] <;> rfl)))
  | (refine st_nil ?_)
  | (apply st_a; (case hc => rfl); (case he => (simp only [go_sem, *] <;> rfl)); (case hu => (simp only [updL_nil, updL_cons] <;> rfl)); (case hp => first | trivial))
  | (apply Awp.reg; (case hn => (simp only [List.length_cons, List.length_nil, Nat.reduceAdd] <;> rfl)))
  | (refine Awp.skip ?_; try simp only [go_sem, *])
  | refine Awp.block ?_
  | (apply Awp.cond; (case hc => (simp only [go_sem, *] <;> rfl)); all_goals (intro hg; (try simp only [Bool.not_true, Bool.not_false, reduceCtorEq] at hg)))
  | refine Awp.seq ?_
  | (refine Awp.draw ?_)
  | (apply sl_a; (case hc => rfl); (case he => (simp only [go_sem, *] <;> rfl)); (case hu => (simp only [updL_nil, updL_cons] <;> rfl)); (case hl => (simp only [List.map_cons, List.map_nil] <;> rfl)); (case hp => first | trivial))
  | (apply sl_gn; (case hv => (simp only [go_sem, *] <;> rfl)); (case hbw => rfl))
  | (refine sl_nil (And.intro (by first | exact drawOk_of (by decide +kernel) | (simp only [List.map_cons, List.map_nil]; exact drawOk_of (by decide +kernel)) | decide) ?_)))
      refine ⟨k + 1, by omega, by omega, ?_⟩
      (apply Ghost.mk [] []; (case hdead => rfl); (case hinj => rfl); (case hV => (simp only [go_sem, *]) <;> (repeat' (first | exact View.int (by first | rfl | omega | (simp; done) | (rw [wrap_i64] <;> (try simp only [Int.natCast_add]) <;> omega) | (simp [*]; done))))); (case hB => (simp only [go_sem, *]) <;> (repeat' (first | skip; done))))
    ·have hkt' : ¬ (k : Int) < D.length := by omega
     have e1 : D.take k = D := List.take_of_length_le (by omega)
     rw [e1]
     cases hD : hasD D (af.getD i ⟨#[]⟩)
     ·have hR := hrb hD
      clear hrb hj hD
      repeat' (first
  | (apply Awp.sreg; (case hn => (simp only [List.length_cons, List.length_nil, Nat.reduceAdd] <;> rfl)))
  | (refine st_nil ?_)
  | (apply st_a; (case hc => rfl); (case he => (simp only [go_sem, *] <;> rfl)); (case hu => (simp only [updL_nil, updL_cons] <;> rfl)); (case hp => first | trivial))
  | (refine Awp.ret ?_; try simp only [go_sem, *])
  | (refine Awp.exit ?_; try simp only [go_sem, *])
  | (apply Awp.cond; (case hc => (simp only [go_sem, *] <;> rfl)); all_goals (intro hg; (try simp only [Bool.not_true, Bool.not_false, reduceCtorEq] at hg)))
  | refine Awp.seq ?_)
      all_goals repeat' (first | exact Lower.bool (by first | rfl | (simp only [true_and, Bool.true_and, Bool.false_and, Bool.and_true, Bool.and_false, Bool.true_or, Bool.false_or, reduceIte, Bool.false_eq_true, *]; done) | (simp only [true_and, reduceIte, Bool.false_eq_true, *] <;> rfl) | (simp [true_and]; done) | (simp_all [true_and]; done) | omega))
     ·have hnx := ltSucc hj hD
      clear hrb hj hD
      repeat' (first
  | (apply Awp.sreg; (case hn => (simp only [List.length_cons, List.length_nil, Nat.reduceAdd] <;> rfl)))
  | (refine st_nil ?_)
  | (apply st_a; (case hc => rfl); (case he => (simp only [go_sem, *] <;> rfl)); (case hu => (simp only [updL_nil, updL_cons] <;> rfl)); (case hp => first | trivial))
  | (apply Awp.reg; (case hn => (simp only [List.length_cons, List.length_nil, Nat.reduceAdd] <;> rfl)))
  | (refine Awp.skip ?_; try simp only [go_sem, *])
  | (refine Awp.exit ?_; try simp only [go_sem, *])
  | (apply Awp.cond; (case hc => (simp only [go_sem, *] <;> rfl)); all_goals (intro hg; (try simp only [Bool.not_true, Bool.not_false, reduceCtorEq] at hg)))
  | refine Awp.seq ?_)
      refine ⟨i + 1, ⟨by omega, hnx⟩, by omega, ?_⟩
      (apply Ghost.mk [] []; (case hdead => rfl); (case hinj => rfl); (case hV => (simp only [go_sem, *]) <;> (repeat' (first | exact View.int (by first | rfl | omega | (simp; done) | (rw [wrap_i64] <;> (try simp only [Int.natCast_add]) <;> omega) | (simp [*]; done))))); (case hB => (simp only [go_sem, *]) <;> (repeat' (first | skip; done))))
  ·have hlt' : ¬ (i : Int) < af.length := by omega
   have hR := ready_end (Nat.le_of_not_lt hlt) hj
   clear hj
   repeat' (first
  | (apply Awp.sreg; (case hn => (simp only [List.length_cons, List.length_nil, Nat.reduceAdd] <;> rfl)))
  | (refine st_nil ?_)
  | (apply st_a; (case hc => rfl); (case he => (simp only [go_sem, *] <;> rfl)); (case hu => (simp only [updL_nil, updL_cons] <;> rfl)); (case hp => first | trivial))
  | (refine Awp.ret ?_; try simp only [go_sem, *])
  | (refine Awp.exit ?_; try simp only [go_sem, *])
  | (apply Awp.cond; (case hc => (simp only [go_sem, *] <;> rfl)); all_goals (intro hg; (try simp only [Bool.not_true, Bool.not_false, reduceCtorEq] at hg); (try have hg' := hg); (try simp only [decide_eq_true_eq, decide_eq_false_iff_not, Bool.and_eq_true, Bool.or_eq_false_iff, bne_iff_ne, bne_eq_false_iff_eq, beq_iff_eq, beq_eq_false_iff_ne, Int.not_lt, Int.not_le, Int.ofNat_lt, Int.ofNat_le, Int.natCast_inj] at hg')))
  | refine Awp.seq ?_)
   all_goals repeat' (first | exact Lower.bool (by first | rfl | (simp only [true_and, Bool.true_and, Bool.false_and, Bool.and_true, Bool.and_false, Bool.true_or, Bool.false_or, reduceIte, Bool.false_eq_true, *]; done) | (simp only [true_and, reduceIte, Bool.false_eq_true, *] <;> rfl) | (simp [true_and]; done) | (simp_all [true_and]; done) | omega))
def bls (T : List Bool) : List (List AV) := T.map fun b => [.v (.bool b)]
@[go_sem] theorem bls_len (T : List Bool) : (bls T).length = T.length := by simp [bls]
theorem bls_at (T : List Bool) (i : Nat) (h : i < T.length) : (bls T).getD i [] = [.v (.bool (T.getD i false))] := by
 simp [bls, List.getD_eq_getElem?_getD, h]
theorem bls_rep (n : Nat) : bls (List.replicate n false) = List.replicate n [.v (.bool false)] := by simp [bls]
theorem bls_set (T : List Bool) (i : Nat) : (bls T).set i [.v (.bool true)] = bls (T.set i true) := by simp [bls, List.map_set]
def takB (l : List Wk) (T : List Bool) (D : List ByteArray) (X : Int) (i : Nat) : Bool := !(T.getD i false) && readyR (l.getD i zeroWk).af D && (decide (X < 0) || strLess (l.getD i zeroWk).id (l.getD X.toNat zeroWk).id)
def nextF (l : List Wk) (T : List Bool) (D : List ByteArray) : Nat → Int
 | 0 => -1
 | i + 1 => if takB l T D (nextF l T D i) i then i else nextF l T D i
theorem nextF_rng (l : List Wk) (T : List Bool) (D : List ByteArray) : ∀ i, -1 ≤ nextF l T D i ∧ nextF l T D i < i
 | 0 => by unfold nextF; omega
 | i + 1 => by
  have := nextF_rng l T D i
  unfold nextF
  split <;> omega
def rordG (l : List Wk) : Nat → List Bool → List ByteArray → List ByteArray × Int
 | 0, _, D => (D, 0)
 | n + 1, T, D => if nextF l T D l.length < 0 then ([], 20) else rordG l n (T.set (nextF l T D l.length).toNat true) (D ++ [(l.getD (nextF l T D l.length).toNat zeroWk).id])
def rordE (l : List Wk) : List ByteArray × Int := if jobsE l ≠ 0 then ([], jobsE l) else rordG l l.length (List.replicate l.length false) []
def ro1 (l : List Wk) (q : List Bool × List ByteArray) : AState := mkS [(0, .sl (wks l)), (5, .own 0), (6, .own 1)] [(0, .row (strs q.2) 1 9), (1, .row (bls q.1) 1 4)]
def ro2 (l : List Wk) (T : List Bool) (D : List ByteArray) (i : Nat) : AState := mkS [(0, .sl (wks l)), (5, .own 0), (6, .own 1), (7, .v (.int .i64 (nextF l T D i))), (8, .v (.int .i64 i))] [(0, .row (strs D) 1 9), (1, .row (bls T) 1 4)]
theorem rord_ok (l : List Wk) (ha : ∀ q ∈ l, q.af.length < 1000000 ∧ q.id.size < 1000000) (hl : l.length < 1000000) : Pure Tryz.prog 12 [.sl (wks l)] (.tup [.sl (strs (rordE l).1), .v (.int .i64 (rordE l).2)]) := by
 have c0 := rchk_ok l hl ha
 unfold rordE
 by_cases hE : jobsE l = 0
 ·rw [if_neg (by simp [hE])]
  rw [hE] at c0
  clear hE
  generalize hR : rordG l l.length (List.replicate l.length false) [] = R
  have hrep := bls_rep l.length
  refine fn_pure Tryz.F12 (Nat.le_of_ble_eq_true rfl) ?_; unfold Tryz.ac12 AR AM AO
  repeat' (first
  | (apply Awp.sreg; (case hn => (simp only [List.length_cons, List.length_nil, Nat.reduceAdd] <;> rfl)))
  | (refine st_nil ?_)
  | (apply st_a; (case hc => rfl); (case he => (simp only [go_sem, *] <;> rfl)); (case hu => (simp only [updL_nil, updL_cons] <;> rfl)); (case hp => first | trivial | omega))
  | (apply st_c; (case hc => (simp only [go_sem, *] <;> rfl)); (case hl => (simp only [go_sem, *] <;> rfl)); (case hn => (simp only [go_sem, *] <;> rfl)); (case hp => first | exact c0 | (have hXz := c0; simp only [go_sem, *] at hXz; exact hXz)))
  | (refine Awp.skip ?_; try simp only [go_sem, *])
  | refine Awp.block ?_
  | (apply Awp.cond; (case hc => (simp only [go_sem, *] <;> rfl)); all_goals (intro hg; (try simp only [Bool.not_true, Bool.not_false, reduceCtorEq] at hg)))
  | refine Awp.seq ?_)
  refine Awp.loop (fun q : List Bool × List ByteArray => q.2.length ≤ l.length ∧ q.1.length = l.length ∧ rordG l (l.length - q.2.length) q.1 q.2 = R) 100 (fun q => ro1 l q) (fun q => l.length - q.2.length) (List.replicate l.length false, []) ⟨by simp, by simp, by simpa using hR⟩ ?_ ?_
  ·refine Ghost.trans (Ghost.name 5 1 9 rfl (by decide)) ?_
   unfold ro1
   clear hR ha
   (apply Ghost.mk [(0, 12), (1, 10)] []; (case hdead => rfl); (case hinj => rfl); (case hV => (simp only [go_sem, *]) <;> (repeat' (first | refine And.intro ?_ ?_ | exact .own rfl (by decide)))); (case hB => (simp only [go_sem, *]) <;> (repeat' (first | refine And.intro ?_ ?_ | exact ⟨_, rfl, .rowE (by first | rfl | omega | (simp; done) | (rw [wrap_i64] <;> (try simp only [Int.natCast_add]) <;> omega) | (simp [*]; done))⟩))))
  ·intro ⟨T, D⟩ ⟨hD, hT, hg⟩
   simp only at hD hT hg ⊢
   clear hR hrep c0
   by_cases hlt : D.length < l.length
   ·have hlt' : (D.length : Int) < l.length := by omega
    obtain ⟨n, hn⟩ : ∃ n, l.length - D.length = n + 1 := ⟨l.length - D.length - 1, by omega⟩
    have hstep : rordG l (l.length - D.length) T D = if nextF l T D l.length < 0 then ([], 20) else rordG l n (T.set (nextF l T D l.length).toNat true) (D ++ [(l.getD (nextF l T D l.length).toNat zeroWk).id]) := by rw [hn]; rfl
    rw [hg] at hstep
    change Hid _ at hstep
    have hnD : n = l.length - (D.length + 1) := by omega
    clear hg hn
    unfold ro1
    repeat' (first
  | (apply Awp.sreg; (case hn => (simp only [List.length_cons, List.length_nil, Nat.reduceAdd] <;> rfl)))
  | (refine st_nil ?_)
  | (apply st_a; (case hc => rfl); (case he => (simp only [go_sem, *] <;> rfl)); (case hu => (simp only [updL_nil, updL_cons] <;> rfl)); (case hp => first | trivial))
  | (refine Awp.skip ?_; try simp only [go_sem, *])
  | refine Awp.block ?_
  | (apply Awp.cond; (case hc => (simp only [go_sem, *] <;> rfl)); all_goals (intro hg; (try simp only [Bool.not_true, Bool.not_false, reduceCtorEq] at hg)))
  | refine Awp.seq ?_)
    refine Awp.loop (fun i : Nat => i ≤ l.length) 200 (fun i => ro2 l T D i) (fun i => l.length - i) 0 (Nat.zero_le _) ?_ ?_
    ·have e1 : nextF l T D 0 = -1 := rfl
     unfold ro2
     rw [e1]
     clear hstep ha
     (apply Ghost.mk [] []; (case hdead => rfl); (case hinj => rfl); (case hV => (simp only [go_sem, *]) <;> (repeat' (first | refine And.intro ?_ ?_ | exact View.int (by first | rfl | omega | (simp; done) | (rw [wrap_i64] <;> (try simp only [Int.natCast_add]) <;> omega) | (simp [*]; done)) | exact .own rfl (by decide)))); (case hB => (simp only [go_sem, *]) <;> (repeat' (first | refine And.intro ?_ ?_ | exact ⟨_, rfl, .rowE (by first | rfl | omega | (simp; done) | (rw [wrap_i64] <;> (try simp only [Int.natCast_add]) <;> omega) | (simp [*]; done))⟩))))
    ·intro i hi
     have hX := nextF_rng l T D i
     unfold ro2
     unfold Hid at hstep
     by_cases hil : i < l.length
     ·have hil' : (i : Int) < l.length := by omega
      have hat := wks_at l i hil
      have hz : ((l.getD i zeroWk).cells).length = 5 := rfl
      have hbt := bls_at T i (by omega)
      have c1 := ready_ok (l.getD i zeroWk).af D (ha _ (getD_mem _ hil)).1 (by omega)
      have hnx : nextF l T D (i + 1) = if takB l T D (nextF l T D i) i then (i : Int) else nextF l T D i := rfl
      unfold takB at hnx
      clear ha hstep
      generalize nextF l T D i = X at *
      have hiT : (i : Int) < T.length := by omega
      cases hTi : T.getD i false
      case true =>
       rw [hTi] at hnx hbt
       rw [Bool.not_true, Bool.false_and, Bool.false_and, if_neg (by decide)] at hnx
       repeat' (first
  | (apply Awp.sreg; (case hn => (simp only [List.length_cons, List.length_nil, Nat.reduceAdd] <;> rfl)))
  | (apply Awp.sdraw; (case hn => (simp only [List.length_cons, List.length_nil, Nat.reduceAdd] <;> rfl)))
  | (refine st_nil ?_)
  | (apply st_a; (case hc => rfl); (case he => (simp only [go_sem, *] <;> rfl)); (case hu => (simp only [updL_nil, updL_cons] <;> rfl)); (case hp => first | trivial))
  | (apply Awp.reg; (case hn => (simp only [List.length_cons, List.length_nil, Nat.reduceAdd] <;> rfl)))
  | (refine Awp.skip ?_; try simp only [go_sem, *])
  | refine Awp.block ?_
  | (apply Awp.cond; (case hc => (simp only [go_sem, *] <;> rfl)); all_goals (intro hg; (try simp only [Bool.not_true, Bool.not_false, reduceCtorEq] at hg)))
  | refine Awp.seq ?_
  | (apply sl_a; (case hc => rfl); (case he => (simp only [go_sem, *] <;> rfl)); (case hu => (simp only [updL_nil, updL_cons] <;> rfl)); (case hl => (simp only [List.map_cons, List.map_nil] <;> rfl)); (case hp => first | trivial | omega))
  | (apply sl_gu; (case hv => (simp only [go_sem, *] <;> rfl)))
  | (apply sl_gn; (case hv => (simp only [go_sem, *] <;> rfl)); (case hbw => rfl))
  | (refine sl_nil (And.intro (by first | exact drawOk_of (by decide +kernel) | (simp only [List.map_cons, List.map_nil]; exact drawOk_of (by decide +kernel)) | decide) ?_)))
       refine ⟨i + 1, by omega, by omega, ?_⟩
       (apply Ghost.mk [] []; (case hdead => rfl); (case hinj => rfl); (case hV => (simp only [go_sem, *]) <;> (repeat' (first | refine And.intro ?_ ?_ | exact View.int (by first | rfl | omega | (simp; done) | (rw [wrap_i64] <;> (try simp only [Int.natCast_add]) <;> omega) | (simp [*]; done)) | exact .own rfl (by decide)))); (case hB => (simp only [go_sem, *]) <;> (repeat' (first | refine And.intro ?_ ?_ | exact ⟨_, rfl, .rowE (by first | rfl | omega | (simp; done) | (rw [wrap_i64] <;> (try simp only [Int.natCast_add]) <;> omega) | (simp [*]; done))⟩))))
      rw [hTi] at hnx hbt
      rw [Bool.not_false, Bool.true_and] at hnx
      cases hr : readyR (l.getD i zeroWk).af D
      ·rw [hr] at hnx c1
       rw [Bool.false_and, if_neg (by decide)] at hnx
       repeat' (first
  | (apply Awp.sreg; (case hn => (simp only [List.length_cons, List.length_nil, Nat.reduceAdd] <;> rfl)))
  | (apply Awp.sdraw; (case hn => (simp only [List.length_cons, List.length_nil, Nat.reduceAdd] <;> rfl)))
  | (refine st_nil ?_)
  | (apply st_a; (case hc => rfl); (case he => (simp only [go_sem, *] <;> rfl)); (case hu => (simp only [updL_nil, updL_cons] <;> rfl)); (case hp => first | trivial))
  | (apply Awp.reg; (case hn => (simp only [List.length_cons, List.length_nil, Nat.reduceAdd] <;> rfl)))
  | (refine Awp.skip ?_; try simp only [go_sem, *])
  | refine Awp.block ?_
  | (apply Awp.cond; (case hc => (simp only [go_sem, *] <;> rfl)); all_goals (intro hg; (try simp only [Bool.not_true, Bool.not_false, reduceCtorEq] at hg)))
  | refine Awp.seq ?_
  | (apply sl_a; (case hc => rfl); (case he => (simp only [go_sem, *] <;> rfl)); (case hu => (simp only [updL_nil, updL_cons] <;> rfl)); (case hl => (simp only [List.map_cons, List.map_nil] <;> rfl)); (case hp => first | trivial | omega))
  | (apply sl_gu; (case hv => (simp only [go_sem, *] <;> rfl)))
  | (apply sl_gn; (case hv => (simp only [go_sem, *] <;> rfl)); (case hbw => rfl))
  | (apply sl_ga; (case hb => rfl); (case hv => (simp only [go_sem, *] <;> rfl)); (case he => (simp only [go_sem, *] <;> rfl)); (case hu => (simp only [updL_nil, updL_cons] <;> rfl)); (case hl => (simp only [List.map_cons, List.map_nil] <;> rfl)); (case hp => first | trivial | omega))
  | (apply sl_cg; (case hop => rfl); (case hv => (simp only [go_sem, *] <;> rfl)); (case hc => (simp only [go_sem, *] <;> rfl)); (case hl => (simp only [go_sem, *] <;> rfl)); (case hn => (simp only [go_sem, *] <;> rfl)); (case hp => first | exact c1 | (have hXz := c1; simp only [go_sem, *] at hXz; exact hXz)); (case hd => first | exact .inl rfl | exact .inr (.v _) | exact .inr .any | exact .inr .nils | (refine .inr ?_; (repeat' (first | exact Dry.v _ | exact Dry.any | exact Dry.nils | exact Dry.slE | refine Dry.agg ?_ | refine Dry.tup ?_ | (refine List.forall_mem_cons.2 (And.intro ?_ ?_)) | (intro cQ hQ; cases hQ; done))); done)); (case hm => first | decide | (simp; done)))
  | (refine sl_nil (And.intro (by first | exact drawOk_of (by decide +kernel) | (simp only [List.map_cons, List.map_nil]; exact drawOk_of (by decide +kernel)) | decide) ?_)))
       refine ⟨i + 1, by omega, by omega, ?_⟩
       (apply Ghost.mk [] []; (case hdead => rfl); (case hinj => rfl); (case hV => (simp only [go_sem, *]) <;> (repeat' (first | refine And.intro ?_ ?_ | exact View.int (by first | rfl | omega | (simp; done) | (rw [wrap_i64] <;> (try simp only [Int.natCast_add]) <;> omega) | (simp [*]; done)) | exact .own rfl (by decide)))); (case hB => (simp only [go_sem, *]) <;> (repeat' (first | refine And.intro ?_ ?_ | exact ⟨_, rfl, .rowE (by first | rfl | omega | (simp; done) | (rw [wrap_i64] <;> (try simp only [Int.natCast_add]) <;> omega) | (simp [*]; done))⟩))))
      rw [hr] at hnx c1
      rw [Bool.true_and] at hnx
      by_cases hX0 : X < 0
      ·rw [decide_eq_true hX0, Bool.true_or, if_pos rfl] at hnx
       repeat' (first
  | (apply Awp.sreg; (case hn => (simp only [List.length_cons, List.length_nil, Nat.reduceAdd] <;> rfl)))
  | (apply Awp.sdraw; (case hn => (simp only [List.length_cons, List.length_nil, Nat.reduceAdd] <;> rfl)))
  | (refine st_nil ?_)
  | (apply st_a; (case hc => rfl); (case he => (simp only [go_sem, *] <;> rfl)); (case hu => (simp only [updL_nil, updL_cons] <;> rfl)); (case hp => first | trivial))
  | (apply Awp.reg; (case hn => (simp only [List.length_cons, List.length_nil, Nat.reduceAdd] <;> rfl)))
  | (refine Awp.skip ?_; try simp only [go_sem, *])
  | refine Awp.block ?_
  | (apply Awp.cond; (case hc => (simp only [go_sem, *] <;> rfl)); all_goals (intro hg; (try simp only [Bool.not_true, Bool.not_false, reduceCtorEq] at hg)))
  | refine Awp.seq ?_
  | (apply sl_a; (case hc => rfl); (case he => (simp only [go_sem, *] <;> rfl)); (case hu => (simp only [updL_nil, updL_cons] <;> rfl)); (case hl => (simp only [List.map_cons, List.map_nil] <;> rfl)); (case hp => first | trivial | omega))
  | (apply sl_gn; (case hv => (simp only [go_sem, *] <;> rfl)); (case hbw => rfl))
  | (apply sl_ga; (case hb => rfl); (case hv => (simp only [go_sem, *] <;> rfl)); (case he => (simp only [go_sem, *] <;> rfl)); (case hu => (simp only [updL_nil, updL_cons] <;> rfl)); (case hl => (simp only [List.map_cons, List.map_nil] <;> rfl)); (case hp => first | trivial | omega))
  | (apply sl_cg; (case hop => rfl); (case hv => (simp only [go_sem, *] <;> rfl)); (case hc => (simp only [go_sem, *] <;> rfl)); (case hl => (simp only [go_sem, *] <;> rfl)); (case hn => (simp only [go_sem, *] <;> rfl)); (case hp => first | exact c1 | (have hXz := c1; simp only [go_sem, *] at hXz; exact hXz)); (case hd => first | exact .inl rfl | exact .inr (.v _) | exact .inr .any | exact .inr .nils | (refine .inr ?_; (repeat' (first | exact Dry.v _ | exact Dry.any | exact Dry.nils | exact Dry.slE | refine Dry.agg ?_ | refine Dry.tup ?_ | (refine List.forall_mem_cons.2 (And.intro ?_ ?_)) | (intro cQ hQ; cases hQ; done))); done)); (case hm => first | decide | (simp; done)))
  | (refine sl_nil (And.intro (by first | exact drawOk_of (by decide +kernel) | (simp only [List.map_cons, List.map_nil]; exact drawOk_of (by decide +kernel)) | decide) ?_)))
       refine ⟨i + 1, by omega, by omega, ?_⟩
       (apply Ghost.mk [] []; (case hdead => rfl); (case hinj => rfl); (case hV => (simp only [go_sem, *]) <;> (repeat' (first | refine And.intro ?_ ?_ | exact View.int (by first | rfl | omega | (simp; done) | (rw [wrap_i64] <;> (try simp only [Int.natCast_add]) <;> omega) | (simp [*]; done)) | exact .own rfl (by decide)))); (case hB => (simp only [go_sem, *]) <;> (repeat' (first | refine And.intro ?_ ?_ | exact ⟨_, rfl, .rowE (by first | rfl | omega | (simp; done) | (rw [wrap_i64] <;> (try simp only [Int.natCast_add]) <;> omega) | (simp [*]; done))⟩))))
      ·obtain ⟨j, rfl⟩ : ∃ j : Nat, X = j := ⟨X.toNat, by omega⟩
       have hjl : j < l.length := by omega
       have hjl' : (j : Int) < l.length := by omega
       have hatj := wks_at l j hjl
       have hzj : ((l.getD j zeroWk).cells).length = 5 := rfl
       rw [decide_eq_false hX0, Bool.false_or, Int.toNat_natCast] at hnx
       have hj0 : decide ((j : Int) < 0) = false := decide_eq_false hX0
       have hji : j < i := by omega
       clear hX hX0
       cases hs : strLess (l.getD i zeroWk).id (l.getD j zeroWk).id
       ·rw [hs, if_neg (by decide)] at hnx
        repeat' (first
  | (apply Awp.sreg; (case hn => (simp only [List.length_cons, List.length_nil, Nat.reduceAdd] <;> rfl)))
  | (apply Awp.sdraw; (case hn => (simp only [List.length_cons, List.length_nil, Nat.reduceAdd] <;> rfl)))
  | (refine st_nil ?_)
  | (apply st_a; (case hc => rfl); (case he => (simp only [go_sem, *] <;> rfl)); (case hu => (simp only [updL_nil, updL_cons] <;> rfl)); (case hp => first | trivial))
  | (apply Awp.reg; (case hn => (simp only [List.length_cons, List.length_nil, Nat.reduceAdd] <;> rfl)))
  | (refine Awp.skip ?_; try simp only [go_sem, *])
  | refine Awp.block ?_
  | (apply Awp.cond; (case hc => (simp only [go_sem, *] <;> rfl)); all_goals (intro hg; (try simp only [Bool.not_true, Bool.not_false, reduceCtorEq] at hg)))
  | refine Awp.seq ?_
  | (apply sl_a; (case hc => rfl); (case he => (simp only [go_sem, *] <;> rfl)); (case hu => (simp only [updL_nil, updL_cons] <;> rfl)); (case hl => (simp only [List.map_cons, List.map_nil] <;> rfl)); (case hp => first | trivial | omega))
  | (apply sl_ga; (case hb => rfl); (case hv => (simp only [go_sem, *] <;> rfl)); (case he => (simp only [go_sem, *] <;> rfl)); (case hu => (simp only [updL_nil, updL_cons] <;> rfl)); (case hl => (simp only [List.map_cons, List.map_nil] <;> rfl)); (case hp => first | trivial | omega))
  | (apply sl_cg; (case hop => rfl); (case hv => (simp only [go_sem, *] <;> rfl)); (case hc => (simp only [go_sem, *] <;> rfl)); (case hl => (simp only [go_sem, *] <;> rfl)); (case hn => (simp only [go_sem, *] <;> rfl)); (case hp => first | exact c1 | (have hXz := c1; simp only [go_sem, *] at hXz; exact hXz)); (case hd => first | exact .inl rfl | exact .inr (.v _) | exact .inr .any | exact .inr .nils | (refine .inr ?_; (repeat' (first | exact Dry.v _ | exact Dry.any | exact Dry.nils | exact Dry.slE | refine Dry.agg ?_ | refine Dry.tup ?_ | (refine List.forall_mem_cons.2 (And.intro ?_ ?_)) | (intro cQ hQ; cases hQ; done))); done)); (case hm => first | decide | (simp; done)))
  | (refine sl_nil (And.intro (by first | exact drawOk_of (by decide +kernel) | (simp only [List.map_cons, List.map_nil]; exact drawOk_of (by decide +kernel)) | decide) ?_)))
        refine ⟨i + 1, by omega, by omega, ?_⟩
        (apply Ghost.mk [] []; (case hdead => rfl); (case hinj => rfl); (case hV => (simp only [go_sem, *]) <;> (repeat' (first | refine And.intro ?_ ?_ | exact View.int (by first | rfl | omega | (simp; done) | (rw [wrap_i64] <;> (try simp only [Int.natCast_add]) <;> omega) | (simp [*]; done)) | exact .own rfl (by decide)))); (case hB => (simp only [go_sem, *]) <;> (repeat' (first | refine And.intro ?_ ?_ | exact ⟨_, rfl, .rowE (by first | rfl | omega | (simp; done) | (rw [wrap_i64] <;> (try simp only [Int.natCast_add]) <;> omega) | (simp [*]; done))⟩))))
       ·rw [hs, if_pos rfl] at hnx
        repeat' (first
  | (apply Awp.sreg; (case hn => (simp only [List.length_cons, List.length_nil, Nat.reduceAdd] <;> rfl)))
  | (apply Awp.sdraw; (case hn => (simp only [List.length_cons, List.length_nil, Nat.reduceAdd] <;> rfl)))
  | (refine st_nil ?_)
  | (apply st_a; (case hc => rfl); (case he => (simp only [go_sem, *] <;> rfl)); (case hu => (simp only [updL_nil, updL_cons] <;> rfl)); (case hp => first | trivial))
  | (apply Awp.reg; (case hn => (simp only [List.length_cons, List.length_nil, Nat.reduceAdd] <;> rfl)))
  | (refine Awp.skip ?_; try simp only [go_sem, *])
  | refine Awp.block ?_
  | (apply Awp.cond; (case hc => (simp only [go_sem, *] <;> rfl)); all_goals (intro hg; (try simp only [Bool.not_true, Bool.not_false, reduceCtorEq] at hg)))
  | refine Awp.seq ?_
  | (apply sl_a; (case hc => rfl); (case he => (simp only [go_sem, *] <;> rfl)); (case hu => (simp only [updL_nil, updL_cons] <;> rfl)); (case hl => (simp only [List.map_cons, List.map_nil] <;> rfl)); (case hp => first | trivial | omega))
  | (apply sl_ga; (case hb => rfl); (case hv => (simp only [go_sem, *] <;> rfl)); (case he => (simp only [go_sem, *] <;> rfl)); (case hu => (simp only [updL_nil, updL_cons] <;> rfl)); (case hl => (simp only [List.map_cons, List.map_nil] <;> rfl)); (case hp => first | trivial | omega))
  | (apply sl_cg; (case hop => rfl); (case hv => (simp only [go_sem, *] <;> rfl)); (case hc => (simp only [go_sem, *] <;> rfl)); (case hl => (simp only [go_sem, *] <;> rfl)); (case hn => (simp only [go_sem, *] <;> rfl)); (case hp => first | exact c1 | (have hXz := c1; simp only [go_sem, *] at hXz; exact hXz)); (case hd => first | exact .inl rfl | exact .inr (.v _) | exact .inr .any | exact .inr .nils | (refine .inr ?_; (repeat' (first | exact Dry.v _ | exact Dry.any | exact Dry.nils | exact Dry.slE | refine Dry.agg ?_ | refine Dry.tup ?_ | (refine List.forall_mem_cons.2 (And.intro ?_ ?_)) | (intro cQ hQ; cases hQ; done))); done)); (case hm => first | decide | (simp; done)))
  | (refine sl_nil (And.intro (by first | exact drawOk_of (by decide +kernel) | (simp only [List.map_cons, List.map_nil]; exact drawOk_of (by decide +kernel)) | decide) ?_)))
        refine ⟨i + 1, by omega, by omega, ?_⟩
        (apply Ghost.mk [] []; (case hdead => rfl); (case hinj => rfl); (case hV => (simp only [go_sem, *]) <;> (repeat' (first | refine And.intro ?_ ?_ | exact View.int (by first | rfl | omega | (simp; done) | (rw [wrap_i64] <;> (try simp only [Int.natCast_add]) <;> omega) | (simp [*]; done)) | exact .own rfl (by decide)))); (case hB => (simp only [go_sem, *]) <;> (repeat' (first | refine And.intro ?_ ?_ | exact ⟨_, rfl, .rowE (by first | rfl | omega | (simp; done) | (rw [wrap_i64] <;> (try simp only [Int.natCast_add]) <;> omega) | (simp [*]; done))⟩))))
     ·have hil' : ¬ (i : Int) < l.length := by omega
      obtain rfl : i = l.length := by omega
      generalize nextF l T D l.length = X at *
      by_cases hX0 : X < 0
      ·rw [if_pos hX0] at hstep
       rw [hstep]
       clear hstep ha
       repeat' (first
  | (apply Awp.sreg; (case hn => (simp only [List.length_cons, List.length_nil, Nat.reduceAdd] <;> rfl)))
  | (refine st_nil ?_)
  | (apply st_a; (case hc => rfl); (case he => (simp only [go_sem, *] <;> rfl)); (case hu => (simp only [updL_nil, updL_cons] <;> rfl)); (case hp => first | trivial))
  | (refine Awp.ret ?_; try simp only [go_sem, *])
  | (refine Awp.exit ?_; try simp only [go_sem, *])
  | (apply Awp.cond; (case hc => (simp only [go_sem, *] <;> rfl)); all_goals (intro hg; (try simp only [Bool.not_true, Bool.not_false, reduceCtorEq] at hg)))
  | refine Awp.seq ?_)
       all_goals repeat' (first | exact Lower.int (by first | rfl | (simp only [true_and, Bool.true_and, Bool.false_and, Bool.and_true, Bool.and_false, Bool.true_or, Bool.false_or, reduceIte, Bool.false_eq_true, *]; done) | (simp only [true_and, reduceIte, Bool.false_eq_true, *] <;> rfl) | (simp [true_and]; done) | (simp_all [true_and]; done) | omega) | exact Lower.nilE (by first | rfl | (simp only [true_and, Bool.true_and, Bool.false_and, Bool.and_true, Bool.and_false, Bool.true_or, Bool.false_or, reduceIte, Bool.false_eq_true, *]; done) | (simp only [true_and, reduceIte, Bool.false_eq_true, *] <;> rfl) | (simp [true_and]; done) | (simp_all [true_and]; done) | omega) | refine Lower.tupF ?_ | refine All2.cons ?_ ?_ | exact All2.nil)
      ·obtain ⟨j, rfl⟩ : ∃ j : Nat, X = j := ⟨X.toNat, by omega⟩
       rw [if_neg hX0, Int.toNat_natCast] at hstep
       have hjl : j < l.length := by omega
       have hjl' : (j : Int) < l.length := by omega
       have hatj := wks_at l j hjl
       have hzj : ((l.getD j zeroWk).cells).length = 5 := rfl
       have hjT : (j : Int) < T.length := by omega
       have hbs := bls_set T j
       have hbj := bls_at T j (by omega)
       have hsn := strs_snoc D (l.getD j zeroWk).id
       have hfin : Hid ((D ++ [(l.getD j zeroWk).id]).length ≤ l.length ∧ (T.set j true).length = l.length ∧ rordG l (l.length - (D ++ [(l.getD j zeroWk).id]).length) (T.set j true) (D ++ [(l.getD j zeroWk).id]) = R) := by
        refine ⟨by rw [List.length_append, List.length_singleton]; omega, by rw [List.length_set]; exact hT, ?_⟩
        rw [List.length_append, List.length_singleton, ← hnD]
        exact hstep.symm
       have hms : l.length - (D ++ [(l.getD j zeroWk).id]).length < l.length - D.length := by rw [List.length_append, List.length_singleton]; omega
       clear hstep ha
       repeat' (first
  | (apply Awp.sreg; (case hn => (simp only [List.length_cons, List.length_nil, Nat.reduceAdd] <;> rfl)))
  | (refine st_nil ?_)
  | (apply st_a; (case hc => rfl); (case he => (simp only [go_sem, *] <;> rfl)); (case hu => (simp only [updL_nil, updL_cons] <;> rfl)); (case hp => first | trivial | omega | (simp; done) | (simp; omega)))
  | (apply Awp.reg; (case hn => (simp only [List.length_cons, List.length_nil, Nat.reduceAdd] <;> rfl)))
  | (refine Awp.skip ?_; try simp only [go_sem, *])
  | (refine Awp.exit ?_; try simp only [go_sem, *])
  | (apply Awp.cond; (case hc => (simp only [go_sem, *] <;> rfl)); all_goals (intro hg; (try simp only [Bool.not_true, Bool.not_false, reduceCtorEq] at hg)))
  | refine Awp.seq ?_)
       refine ⟨(T.set j true, D ++ [(l.getD j zeroWk).id]), hfin, hms, ?_⟩
       clear hfin hms
       (apply Ghost.mk [(0, 217)] []; (case hdead => rfl); (case hinj => rfl); (case hV => (simp only [go_sem, *]) <;> (repeat' (first | refine And.intro ?_ ?_ | exact .own rfl (by decide)))); (case hB => (simp only [go_sem, *]) <;> (repeat' (first | refine And.intro ?_ ?_ | exact ⟨_, rfl, .rowE (by first | rfl | omega | (simp; done) | (rw [wrap_i64] <;> (try simp only [Int.natCast_add]) <;> omega) | (simp [*]; done))⟩))))
   ·have hlt' : ¬ (D.length : Int) < l.length := by omega
    have h0 : l.length - D.length = 0 := by omega
    rw [h0] at hg
    have hR2 : R = (D, 0) := hg.symm
    rw [hR2]
    clear hg hR2 ha h0
    unfold ro1
    repeat' (first
  | (apply Awp.sreg; (case hn => (simp only [List.length_cons, List.length_nil, Nat.reduceAdd] <;> rfl)))
  | (refine st_nil ?_)
  | (apply st_a; (case hc => rfl); (case he => (simp only [go_sem, *] <;> rfl)); (case hu => (simp only [updL_nil, updL_cons] <;> rfl)); (case hp => first | trivial))
  | (refine Awp.ret ?_; try simp only [go_sem, *])
  | (refine Awp.exit ?_; try simp only [go_sem, *])
  | (apply Awp.cond; (case hc => (simp only [go_sem, *] <;> rfl)); all_goals (intro hg; (try simp only [Bool.not_true, Bool.not_false, reduceCtorEq] at hg)))
  | refine Awp.seq ?_)
    all_goals repeat' (first | exact Lower.int (by first | rfl | (simp only [true_and, Bool.true_and, Bool.false_and, Bool.and_true, Bool.and_false, Bool.true_or, Bool.false_or, reduceIte, Bool.false_eq_true, *]; done) | (simp only [true_and, reduceIte, Bool.false_eq_true, *] <;> rfl) | (simp [true_and]; done) | (simp_all [true_and]; done) | omega) | exact Lower.ownE (by simp only [go_sem, *] <;> rfl) (by first | rfl | (simp only [true_and, Bool.true_and, Bool.false_and, Bool.and_true, Bool.and_false, Bool.true_or, Bool.false_or, reduceIte, Bool.false_eq_true, *]; done) | (simp only [true_and, reduceIte, Bool.false_eq_true, *] <;> rfl) | (simp [true_and]; done) | (simp_all [true_and]; done) | omega) | refine Lower.tupF ?_ | refine All2.cons ?_ ?_ | exact All2.nil)
 ·rw [if_pos hE]
  have hE' : (jobsE l != 0) = true := by simpa using hE
  generalize jobsE l = e at *
  clear ha
  refine fn_pure Tryz.F12 (Nat.le_of_ble_eq_true rfl) ?_; unfold Tryz.ac12 AR AM AO
  repeat' (first
  | (apply Awp.sreg; (case hn => (simp only [List.length_cons, List.length_nil, Nat.reduceAdd] <;> rfl)))
  | (refine st_nil ?_)
  | (apply st_a; (case hc => rfl); (case he => (simp only [go_sem, *] <;> rfl)); (case hu => (simp only [updL_nil, updL_cons] <;> rfl)); (case hp => first | trivial))
  | (apply st_c; (case hc => (simp only [go_sem, *] <;> rfl)); (case hl => (simp only [go_sem, *] <;> rfl)); (case hn => (simp only [go_sem, *] <;> rfl)); (case hp => first | exact c0 | (have hXz := c0; simp only [go_sem, *] at hXz; exact hXz)))
  | (refine Awp.ret ?_; try simp only [go_sem, *])
  | (apply Awp.cond; (case hc => (simp only [go_sem, *] <;> rfl)); all_goals (intro hg; (try simp only [Bool.not_true, Bool.not_false, reduceCtorEq] at hg); (try have hg' := hg); (try simp only [decide_eq_true_eq, decide_eq_false_iff_not, Bool.and_eq_true, Bool.or_eq_false_iff, bne_iff_ne, bne_eq_false_iff_eq, beq_iff_eq, beq_eq_false_iff_ne, Int.not_lt, Int.not_le, Int.ofNat_lt, Int.ofNat_le, Int.natCast_inj] at hg')))
  | refine Awp.seq ?_)
  all_goals repeat' (first | exact Lower.int (by first | rfl | (simp only [true_and, Bool.true_and, Bool.false_and, Bool.and_true, Bool.and_false, Bool.true_or, Bool.false_or, reduceIte, Bool.false_eq_true, *]; done) | (simp only [true_and, reduceIte, Bool.false_eq_true, *] <;> rfl) | (simp [true_and]; done) | (simp_all [true_and]; done) | omega) | exact Lower.nilE (by first | rfl | (simp only [true_and, Bool.true_and, Bool.false_and, Bool.and_true, Bool.and_false, Bool.true_or, Bool.false_or, reduceIte, Bool.false_eq_true, *]; done) | (simp only [true_and, reduceIte, Bool.false_eq_true, *] <;> rfl) | (simp [true_and]; done) | (simp_all [true_and]; done) | omega) | refine Lower.tupF ?_ | refine All2.cons ?_ ?_ | exact All2.nil)
end Go.Proofs
