import Derived.Test.YtadpljebgkfeoaaGreatDoorPZC
import Derived.Shelf.SlSortCmp.NoneTotal
import Derived.Shelf.SlicesG.Cmp
import Derived.Shelf.SlicesE.Clone
import Derived.Shelf.Spec.SlicesGrow
import Derived.Ground.SlsfProg
import Derived.Ground.SlgcProg
import Derived.Ground.SlgnProg
import Derived.Ground.Names8Prog
import Derived.Test.YtadpljebgkfeoaaGreatDoorProg
set_option linter.unusedVariables false
set_option linter.unusedSimpArgs false
namespace Go.Proofs
open Go Go.Ab
def dupB (l : List Sty) (i : Nat) : Bool := (l.take i).any fun x => x.item.toList == (l.getD i zeroSty).item.toList
def clashB (b x : Sty) : Bool := (x.bay.toList == b.bay.toList) && decide (b.a < x.b) && decide (x.b < b.b)
def dockE (bs : List By) (l : List Sty) : Int :=
  if checkE bs l != 0 then checkE bs l else if (List.range l.length).any (dupB l) then 7 else if l.any (fun b => l.any (clashB b)) then 14 else 0
theorem dockE_iff (bs : List By) (l : List Sty) : dockE bs l = 0 ↔ checkE bs l = 0 ∧ l.Pairwise (fun p q => p.item.toList ≠ q.item.toList) ∧ ∀ b ∈ l, ∀ x ∈ l, clashB b x = false := by
  have hp : (List.range l.length).any (dupB l) = false ↔ l.Pairwise (fun p q => p.item.toList ≠ q.item.toList) := by
    rw [List.any_eq_false, List.pairwise_iff_getElem]
    have hget : ∀ i (h : i < l.length), l.getD i zeroSty = l[i] := fun i h => by simp [List.getD_eq_getElem?_getD, h]
    constructor
    · intro h i j hi hj hij he
      refine h j (List.mem_range.2 hj) ?_
      unfold dupB
      rw [List.any_eq_true]
      refine ⟨l[i], List.mem_take_iff_getElem.2 ⟨i, by omega, rfl⟩, ?_⟩
      rw [hget j hj]
      simpa using he
    · intro h j hj hd
      have hj := List.mem_range.1 hj
      unfold dupB at hd
      rw [List.any_eq_true] at hd
      obtain ⟨x, hx, he⟩ := hd
      obtain ⟨i, hi, rfl⟩ := List.mem_take_iff_getElem.1 hx
      rw [hget j hj] at he
      exact h i j (by omega) hj (by omega) (by simpa using he)
  have hc : l.any (fun b => l.any (clashB b)) = false ↔ ∀ b ∈ l, ∀ x ∈ l, clashB b x = false := by
    simp only [List.any_eq_false, Bool.not_eq_true]
  unfold dockE
  by_cases h1 : checkE bs l = 0
  · rw [if_neg (by rw [h1]; simp)]
    cases h2 : (List.range l.length).any (dupB l)
    · rw [if_neg (by simp)]
      cases h3 : l.any (fun b => l.any (clashB b))
      · rw [if_neg (by simp)]
        exact ⟨fun _ => ⟨h1, hp.1 h2, hc.1 h3⟩, fun _ => rfl⟩
      · rw [if_pos rfl]
        refine ⟨fun h => absurd h (by decide), fun h => ?_⟩
        rw [hc.2 h.2.2] at h3; cases h3
    · rw [if_pos rfl]
      refine ⟨fun h => absurd h (by decide), fun h => ?_⟩
      rw [hp.2 h.2.1] at h2; cases h2
  · rw [if_pos (by simpa using h1)]
    exact ⟨fun h => absurd h h1, fun h => absurd h.1 h1⟩
/-- No berth is in the way of another one. -/
def Free (l : List Sty) (x : Sty) : Prop :=
  ∀ b ∈ l, b.bay.toList = x.bay.toList → b.a < x.b → x.a < b.b → b.b = x.b ∧ ¬ (x.x < b.x + b.len ∧ b.x < x.x + x.len ∧ x.y < b.y + b.wid ∧ b.y < x.y + x.wid)
theorem dock_add {bs : List By} {l : List Sty} {x : Sty} (h : dockE bs l = 0) (hn : ∀ b ∈ l, b.item.toList ≠ x.item.toList) (hl : l.length < 128) : dockE bs (l ++ [x]) = 0 ↔ good bs x = true ∧ Free l x := by
  obtain ⟨h1, h2, h3⟩ := (dockE_iff bs l).1 h
  obtain ⟨hb, hl2, hg, hp⟩ := (checkE_iff bs l).1 h1
  rw [dockE_iff, checkE_iff]
  constructor
  · rintro ⟨⟨_, _, k1, k2⟩, k3, k4⟩
    have gx := k1 x (by simp)
    refine ⟨gx, fun b hbl e1 e2 e3 => ⟨?_, fun ho => ?_⟩⟩
    · have c1 := k4 x (by simp) b (by simp [hbl])
      have c2 := k4 b (by simp [hbl]) x (by simp)
      unfold clashB at c1 c2
      rw [e1] at c1 c2
      simp only [beq_self_eq_true, Bool.true_and, Bool.and_eq_false_iff, decide_eq_false_iff_not] at c1 c2
      omega
    · have ha := (List.pairwise_append.1 k2).2.2 b hbl x (by simp)
      unfold apart at ha
      rw [overB_symm] at ha
      have := (over_iff hb gx (hg b hbl)).2 ⟨e1.symm, e3, e2, ho.1, ho.2.1, ho.2.2.1, ho.2.2.2⟩
      rw [ha] at this; cases this
  · rintro ⟨gx, hf⟩
    have bx := good_box hb gx
    refine ⟨⟨hb, by simp; omega, fun y hy => ?_, ?_⟩, ?_, fun b hb1 y hy => ?_⟩
    · rcases List.mem_append.1 hy with hy | hy
      · exact hg y hy
      · rw [List.mem_singleton.1 hy]; exact gx
    · rw [List.pairwise_append]
      refine ⟨hp, by simp, fun a ha b hb1 => ?_⟩
      rw [List.mem_singleton.1 hb1]
      unfold apart
      cases ho : overB a x
      · rfl
      · rw [overB_symm] at ho
        have k := (over_iff hb gx (hg a ha)).1 ho
        exact absurd ⟨k.2.2.2.1, k.2.2.2.2.1, k.2.2.2.2.2.1, k.2.2.2.2.2.2⟩ (hf a ha k.1.symm k.2.2.1 k.2.1).2
    · rw [List.pairwise_append]
      exact ⟨h2, by simp, fun a ha b hb1 => by rw [List.mem_singleton.1 hb1]; exact hn a ha⟩
    · have box : ∀ z, z ∈ l → z.a < z.b := fun z hz => by have := good_box hb (hg z hz); omega
      rcases List.mem_append.1 hb1 with hb1 | hb1
      · rcases List.mem_append.1 hy with hy | hy
        · exact h3 b hb1 y hy
        · rw [List.mem_singleton.1 hy]
          cases hc : clashB b x
          · rfl
          · unfold clashB at hc
            simp only [Bool.and_eq_true, beq_iff_eq, decide_eq_true_eq] at hc
            have := (hf b hb1 hc.1.1.symm hc.1.2 (by omega)).1
            omega
      · rw [List.mem_singleton.1 hb1]
        rcases List.mem_append.1 hy with hy | hy
        · cases hc : clashB x y
          · rfl
          · unfold clashB at hc
            simp only [Bool.and_eq_true, beq_iff_eq, decide_eq_true_eq] at hc
            have := box y hy
            have := (hf y hy hc.1.1 (by omega) hc.1.2).1
            omega
        · rw [List.mem_singleton.1 hy]
          unfold clashB
          simp only [Bool.and_eq_false_iff, decide_eq_false_iff_not]
          omega
theorem findB_self {bs : List By} (h : baysOk bs) {i : Nat} (hi : i < bs.length) : findB bs (bs.getD i zeroBy).nm = (bs.getD i zeroBy, true) := by
  have hb := h.2 i hi
  have hget : bs.getD i zeroBy = bs[i] := by simp [List.getD_eq_getElem?_getD, hi]
  have h2 : (findB (bs.take i) (bs.getD i zeroBy).nm).2 = false := by
    cases hf : (findB (bs.take i) (bs.getD i zeroBy).nm).2
    · rfl
    · unfold bayAt at hb
      rw [hf] at hb
      split at hb
      · exact absurd hb (by decide)
      · split at hb
        · exact absurd hb (by decide)
        · exact absurd hb (by decide)
  have hj : ∀ j, j < i → (fun q : By => q.nm.toList == (bs.getD i zeroBy).nm.toList) (bs.getD j zeroBy) = false := by
    intro j hji
    cases he : (fun q : By => q.nm.toList == (bs.getD i zeroBy).nm.toList) (bs.getD j zeroBy)
    · rfl
    · exfalso
      have hany : (bs.take i).any (fun q : By => q.nm.toList == (bs.getD i zeroBy).nm.toList) = true := by
        rw [List.any_eq_true]
        refine ⟨bs[j], List.mem_take_iff_getElem.2 ⟨j, by omega, rfl⟩, ?_⟩
        have e : bs.getD j zeroBy = bs[j] := by simp [List.getD_eq_getElem?_getD, show j < bs.length by omega]
        rw [e] at he
        exact he
      rw [← idxF_any] at hany
      unfold findB at h2
      split at h2
      · rename_i hlt
        simp only [decide_eq_true_eq] at hlt hany
        omega
      · exact absurd h2 (by simp)
  have e := idxF_in (p := fun q : By => q.nm.toList == (bs.getD i zeroBy).nm.toList) (d := zeroBy) hi (by simp) hj
  unfold findB
  rw [e, if_neg (by simp), Int.toNat_natCast]
def nearD (d : By) (x b : Sty) : Bool := (b.bay.toList == d.nm.toList) && decide (x.a < b.b) && decide (b.a < x.b)
def meetB (a b : Sty) : Bool := decide (a.a < b.b) && decide (b.a < a.b) && decide (a.x < IntKind.i64.wrap (b.x + b.len)) && decide (b.x < IntKind.i64.wrap (a.x + a.len)) && decide (a.y < IntKind.i64.wrap (b.y + b.wid)) && decide (b.y < IntKind.i64.wrap (a.y + a.wid))
def besideL (d : By) (l : List Sty) (x : Sty) : List Sty := l.filter (nearD d x)
def xsD (d : By) (l : List Sty) (x : Sty) : List Int := 0 :: (besideL d l x).map fun b => IntKind.i64.wrap (b.x + b.len)
def ysD (d : By) (l : List Sty) (x : Sty) : List Int := 0 :: (besideL d l x).map fun b => IntKind.i64.wrap (b.y + b.wid)
def okP (d : By) (near : List Sty) (x : Sty) (X Y : Int) : Bool := !(near.any (meetB (x.at_ X Y))) && decide (IntKind.i64.wrap (X + x.len) ≤ d.len) && decide (IntKind.i64.wrap (Y + x.wid) ≤ d.wid)
def endBad (d : By) (x b : Sty) : Bool := nearD d x b && (b.b != x.b)
def placeD (d : By) (l : List Sty) (x : Sty) : Option Sty :=
  if l.any (endBad d x) then none else (scanE (okP d (besideL d l x) x) (sortI (ysD d l x)) (sortI (xsD d l x))).map fun o => x.at_ o.1 o.2
def inDock (x b : Sty) : Bool := b.bay.toList == x.bay.toList
def xsA (l : List Sty) (x : Sty) : List Int := 0 :: (l.filter (inDock x)).map fun b => IntKind.i64.wrap (b.x + b.len)
def ysA (l : List Sty) (x : Sty) : List Int := 0 :: (l.filter (inDock x)).map fun b => IntKind.i64.wrap (b.y + b.wid)
def atOk (bs : List By) (l : List Sty) (x : Sty) (X Y : Int) : Bool := dockE bs (l ++ [x.at_ X Y]) == 0
def atD (bs : List By) (l : List Sty) (x : Sty) : Option Sty :=
  (scanE (atOk bs l x) (Lib.compact (sortI (ysA l x))) (Lib.compact (sortI (xsA l x)))).map fun o => x.at_ o.1 o.2
theorem find_asc {p : Int → Bool} : ∀ {l : List Int} {x : Int}, l.Pairwise (· ≤ ·) → l.find? p = some x → p x = true ∧ x ∈ l ∧ ∀ y ∈ l, p y = true → x ≤ y
  | [], _, _, h => by simp at h
  | a :: l, x, hp, h => by
    rw [List.pairwise_cons] at hp
    rw [List.find?_cons] at h
    cases ha : p a with
    | true =>
      rw [ha] at h
      simp only [Option.some.injEq] at h
      subst h
      exact ⟨ha, by simp, fun y hy _ => by
        rcases List.mem_cons.1 hy with rfl | hy
        · exact Int.le_refl _
        · exact hp.1 y hy⟩
    | false =>
      rw [ha] at h
      obtain ⟨h1, h2, h3⟩ := find_asc hp.2 h
      exact ⟨h1, by simp [h2], fun y hy hpy => by
        rcases List.mem_cons.1 hy with rfl | hy
        · rw [ha] at hpy; cases hpy
        · exact h3 y hy hpy⟩
theorem fs_asc {β : Type} {f : Int → Option β} : ∀ {l : List Int} {o : β}, l.Pairwise (· ≤ ·) → l.findSome? f = some o → ∃ x ∈ l, f x = some o ∧ ∀ y ∈ l, (f y).isSome = true → x ≤ y
  | [], _, _, h => by simp at h
  | a :: l, o, hp, h => by
    rw [List.pairwise_cons] at hp
    rw [List.findSome?_cons] at h
    cases ha : f a with
    | some b =>
      rw [ha] at h
      simp only [Option.some.injEq] at h
      subst h
      exact ⟨a, by simp, ha, fun y hy _ => by
        rcases List.mem_cons.1 hy with rfl | hy
        · exact Int.le_refl _
        · exact hp.1 y hy⟩
    | none =>
      rw [ha] at h
      obtain ⟨x, h1, h2, h3⟩ := fs_asc hp.2 h
      exact ⟨x, by simp [h1], h2, fun y hy hpy => by
        rcases List.mem_cons.1 hy with rfl | hy
        · rw [ha] at hpy; simp at hpy
        · exact h3 y hy hpy⟩
theorem scan_first {P : Int → Int → Bool} {lw c : List Int} {o : Int × Int} (hl : lw.Pairwise (· ≤ ·)) (hc : c.Pairwise (· ≤ ·)) (h : scanE P lw c = some o) :
    P o.1 o.2 = true ∧ o.1 ∈ c ∧ o.2 ∈ lw ∧ ∀ X ∈ c, ∀ Y ∈ lw, P X Y = true → o.2 ≤ Y ∧ (Y = o.2 → o.1 ≤ X) := by
  unfold scanE at h
  obtain ⟨y, hy, hf, hm⟩ := fs_asc hl h
  cases hg : c.find? (fun x => P x y) with
  | none => rw [hg] at hf; simp at hf
  | some z =>
    rw [hg] at hf
    simp only [Option.map_some, Option.some.injEq] at hf
    subst hf
    obtain ⟨h1, h2, h3⟩ := find_asc hc hg
    refine ⟨h1, h2, hy, fun X hX Y hY hP => ⟨hm Y hY ?_, fun e => ?_⟩⟩
    · rw [Option.isSome_map, List.find?_isSome]
      exact ⟨X, hX, hP⟩
    · have e : Y = y := e
      subst e
      exact h3 X hX hP
theorem scan_eq {P Q : Int → Int → Bool} {ya xa yb xb : List Int} (h1 : ya.Pairwise (· ≤ ·)) (h2 : xa.Pairwise (· ≤ ·)) (h3 : yb.Pairwise (· ≤ ·)) (h4 : xb.Pairwise (· ≤ ·))
    (hy : ∀ y ∈ ya, y ∈ yb) (hx : ∀ x ∈ xa, x ∈ xb) (hPQ : ∀ x ∈ xb, ∀ y ∈ yb, P x y = Q x y)
    (red : ∀ X ∈ xb, ∀ Y ∈ yb, Q X Y = true → ∃ X' ∈ xa, ∃ Y' ∈ ya, X' ≤ X ∧ Y' ≤ Y ∧ Q X' Y' = true) : scanE P ya xa = scanE Q yb xb := by
  cases hB : scanE Q yb xb with
  | none =>
    cases hA : scanE P ya xa with
    | none => rfl
    | some o =>
      exfalso
      obtain ⟨a1, a2, a3, _⟩ := scan_first h1 h2 hA
      rw [hPQ _ (hx _ a2) _ (hy _ a3)] at a1
      obtain ⟨o', ho'⟩ := scanE_is (hx _ a2) (hy _ a3) a1
      rw [hB] at ho'; cases ho'
  | some o' =>
    obtain ⟨b1, b2, b3, b4⟩ := scan_first h3 h4 hB
    obtain ⟨X', hX', Y', hY', hXX, hYY, hQ⟩ := red _ b2 _ b3 b1
    have hP : P X' Y' = true := by rw [hPQ _ (hx _ hX') _ (hy _ hY')]; exact hQ
    obtain ⟨o, hA⟩ := scanE_is hX' hY' hP
    rw [hA]
    obtain ⟨a1, a2, a3, a4⟩ := scan_first h1 h2 hA
    have hQo : Q o.1 o.2 = true := by rw [← hPQ _ (hx _ a2) _ (hy _ a3)]; exact a1
    have k1 := a4 X' hX' Y' hY' hP
    have k2 := b4 _ (hx _ a2) _ (hy _ a3) hQo
    have e2 : o.2 = o'.2 := by omega
    have k3 := k2.2 e2
    have k4 := k1.2 (by omega)
    have e1 : o.1 = o'.1 := by omega
    obtain ⟨p, q⟩ := o
    obtain ⟨p', q'⟩ := o'
    simp only at e1 e2
    rw [e1, e2]
theorem sortI_asc (l : List Int) : (sortI l).Pairwise (· ≤ ·) := sortZ_asc l
theorem mem_sortI (l : List Int) (x : Int) : x ∈ sortI l ↔ x ∈ l := mem_sortZ l x
theorem cs_asc (l : List Int) : (Lib.compact (sortI l)).Pairwise (· < ·) := (compact_sorted (sortZ l) (sortZ_asc _)).1
theorem cs_asc2 (l : List Int) : (Lib.compact (sortI l)).Pairwise (· ≤ ·) := (cs_asc l).imp fun h => Int.le_of_lt h
/-- What a berth that is looked for keeps. -/
structure Asked (bs : List By) (l : List Sty) (d : By) (x : Sty) : Prop where
  ok : dockE bs l = 0
  room : l.length < 128
  new : ∀ b ∈ l, b.item.toList ≠ x.item.toList
  id : idB x.item = true
  dock : findB bs d.nm = (d, true)
  bay : x.bay = d.nm
  len : 1 ≤ x.len ∧ x.len ≤ 524288
  wid : 1 ≤ x.wid ∧ x.wid ≤ 524288
  tim : 0 ≤ x.a ∧ x.a < x.b ∧ x.b ≤ 1048576
section
variable {bs : List By} {l : List Sty} {d : By} {x : Sty}
theorem Asked.bays (h : Asked bs l d x) : baysOk bs := ((checkE_iff bs l).1 ((dockE_iff bs l).1 h.ok).1).1
theorem Asked.good (h : Asked bs l d x) {b : Sty} (hb : b ∈ l) : good bs b = true := ((checkE_iff bs l).1 ((dockE_iff bs l).1 h.ok).1).2.2.1 b hb
theorem Asked.at_good (h : Asked bs l d x) (X Y : Int) : Go.Proofs.good bs (x.at_ X Y) = true ↔ 0 ≤ X ∧ 0 ≤ Y ∧ X + x.len ≤ d.len ∧ Y + x.wid ≤ d.wid := by
  rw [good_iff h.bays]
  simp only [Sty.at_]
  rw [h.bay, h.dock]
  have := h.len; have := h.wid; have := h.tim
  refine ⟨fun hh => ⟨hh.2.2.2.2.2.2.1, hh.2.2.2.2.2.2.2.1, hh.2.2.2.2.2.2.2.2.1, hh.2.2.2.2.2.2.2.2.2.1⟩, fun hh => ⟨h.id, rfl, ?_⟩⟩
  dsimp only
  omega
def Fits (l : List Sty) (d : By) (x : Sty) (X Y : Int) : Prop := 0 ≤ X ∧ 0 ≤ Y ∧ X + x.len ≤ d.len ∧ Y + x.wid ≤ d.wid ∧ Free l (x.at_ X Y)
theorem Asked.atOk (h : Asked bs l d x) (X Y : Int) : atOk bs l x X Y = true ↔ Fits l d x X Y := by
  unfold Go.Proofs.atOk Fits
  rw [beq_iff_eq, dock_add (x := x.at_ X Y) h.ok (fun b hb => h.new b hb) h.room, h.at_good]
  constructor
  · rintro ⟨⟨a, b, c, d⟩, e⟩; exact ⟨a, b, c, d, e⟩
  · rintro ⟨a, b, c, d, e⟩; exact ⟨⟨a, b, c, d⟩, e⟩
theorem near_iff (h : Asked bs l d x) (b : Sty) : nearD d x b = true ↔ b.bay.toList = x.bay.toList ∧ b.a < x.b ∧ x.a < b.b := by
  unfold nearD
  rw [h.bay]
  simp only [Bool.and_eq_true, beq_iff_eq, decide_eq_true_eq]
  constructor
  · rintro ⟨⟨a, b⟩, c⟩; exact ⟨a, c, b⟩
  · rintro ⟨a, b, c⟩; exact ⟨⟨a, c⟩, b⟩
theorem meet_iff (X Y : Int) (b : Sty) : meetB (x.at_ X Y) b = true ↔ x.a < b.b ∧ b.a < x.b ∧ X < IntKind.i64.wrap (b.x + b.len) ∧ b.x < IntKind.i64.wrap (X + x.len) ∧ Y < IntKind.i64.wrap (b.y + b.wid) ∧ b.y < IntKind.i64.wrap (Y + x.wid) := by
  show (decide (x.a < b.b) && decide (b.a < x.b) && decide (X < IntKind.i64.wrap (b.x + b.len)) && decide (b.x < IntKind.i64.wrap (X + x.len)) && decide (Y < IntKind.i64.wrap (b.y + b.wid)) && decide (b.y < IntKind.i64.wrap (Y + x.wid))) = true ↔ _
  simp only [Bool.and_eq_true, decide_eq_true_eq, and_assoc]
theorem Asked.okP (h : Asked bs l d x) (hne : l.any (endBad d x) = false) {X Y : Int} (hX : 0 ≤ X ∧ X ≤ 524288) (hY : 0 ≤ Y ∧ Y ≤ 524288) : okP d (besideL d l x) x X Y = true ↔ Fits l d x X Y := by
  have hl := h.len; have hw := h.wid
  unfold Go.Proofs.okP Fits
  rw [wrap_i64 (n := X + x.len) (by omega) (by omega), wrap_i64 (n := Y + x.wid) (by omega) (by omega)]
  simp only [Bool.and_eq_true, Bool.not_eq_true', decide_eq_true_eq]
  have key : (besideL d l x).any (meetB (x.at_ X Y)) = false ↔ Free l (x.at_ X Y) := by
    rw [List.any_eq_false]
    constructor
    · intro hh b hb e1 e2 e3
      have hn : nearD d x b = true := (near_iff h b).2 ⟨e1, e2, e3⟩
      refine ⟨?_, fun ho => ?_⟩
      · have := List.any_eq_false.1 hne b hb
        unfold endBad at this
        rw [hn] at this
        show b.b = x.b
        simpa using this
      · refine hh b (List.mem_filter.2 ⟨hb, hn⟩) ?_
        have gb := good_box h.bays (h.good hb)
        rw [meet_iff]
        simp only [Sty.at_] at ho e2 e3
        rw [wrap_i64 (n := b.x + b.len) (by omega) (by omega), wrap_i64 (n := X + x.len) (by omega) (by omega), wrap_i64 (n := b.y + b.wid) (by omega) (by omega), wrap_i64 (n := Y + x.wid) (by omega) (by omega)]
        omega
    · intro hf b hb hm
      obtain ⟨hb, hn⟩ := List.mem_filter.1 hb
      have hn := (near_iff h b).1 hn
      have gb := good_box h.bays (h.good hb)
      refine (hf b hb hn.1 hn.2.1 hn.2.2).2 ?_
      rw [meet_iff] at hm
      simp only [Sty.at_]
      rw [wrap_i64 (n := b.x + b.len) (by omega) (by omega), wrap_i64 (n := X + x.len) (by omega) (by omega), wrap_i64 (n := b.y + b.wid) (by omega) (by omega), wrap_i64 (n := Y + x.wid) (by omega) (by omega)] at hm
      omega
  rw [key]
  constructor
  · rintro ⟨⟨a, b⟩, c⟩; exact ⟨hX.1, hY.1, b, c, a⟩
  · rintro ⟨_, _, b, c, a⟩; exact ⟨⟨a, b⟩, c⟩
theorem mem_xsD (Z : Int) : Z ∈ xsD d l x ↔ Z = 0 ∨ ∃ b ∈ l, nearD d x b = true ∧ IntKind.i64.wrap (b.x + b.len) = Z := by
  unfold xsD besideL
  simp only [List.mem_cons, List.mem_map, List.mem_filter, and_assoc]
theorem mem_ysD (Z : Int) : Z ∈ ysD d l x ↔ Z = 0 ∨ ∃ b ∈ l, nearD d x b = true ∧ IntKind.i64.wrap (b.y + b.wid) = Z := by
  unfold ysD besideL
  simp only [List.mem_cons, List.mem_map, List.mem_filter, and_assoc]
theorem mem_xsA (Z : Int) : Z ∈ xsA l x ↔ Z = 0 ∨ ∃ b ∈ l, inDock x b = true ∧ IntKind.i64.wrap (b.x + b.len) = Z := by
  unfold xsA
  simp only [List.mem_cons, List.mem_map, List.mem_filter, and_assoc]
theorem mem_ysA (Z : Int) : Z ∈ ysA l x ↔ Z = 0 ∨ ∃ b ∈ l, inDock x b = true ∧ IntKind.i64.wrap (b.y + b.wid) = Z := by
  unfold ysA
  simp only [List.mem_cons, List.mem_map, List.mem_filter, and_assoc]
theorem Asked.xs_in (h : Asked bs l d x) {Z : Int} (hz : Z ∈ xsA l x) : 0 ≤ Z ∧ Z ≤ 524288 := by
  rcases (mem_xsA Z).1 hz with rfl | ⟨b, hb, _, rfl⟩
  · omega
  · have := good_box h.bays (h.good hb)
    rw [wrap_i64 (by omega) (by omega)]; omega
theorem Asked.ys_in (h : Asked bs l d x) {Z : Int} (hz : Z ∈ ysA l x) : 0 ≤ Z ∧ Z ≤ 524288 := by
  rcases (mem_ysA Z).1 hz with rfl | ⟨b, hb, _, rfl⟩
  · omega
  · have := good_box h.bays (h.good hb)
    rw [wrap_i64 (by omega) (by omega)]; omega
theorem Asked.xs_sub (h : Asked bs l d x) {Z : Int} (hz : Z ∈ xsD d l x) : Z ∈ xsA l x := by
  rcases (mem_xsD Z).1 hz with rfl | ⟨b, hb, hn, rfl⟩
  · exact (mem_xsA 0).2 (.inl rfl)
  · exact (mem_xsA _).2 (.inr ⟨b, hb, by unfold inDock; simpa using ((near_iff h b).1 hn).1, rfl⟩)
theorem Asked.ys_sub (h : Asked bs l d x) {Z : Int} (hz : Z ∈ ysD d l x) : Z ∈ ysA l x := by
  rcases (mem_ysD Z).1 hz with rfl | ⟨b, hb, hn, rfl⟩
  · exact (mem_ysA 0).2 (.inl rfl)
  · exact (mem_ysA _).2 (.inr ⟨b, hb, by unfold inDock; simpa using ((near_iff h b).1 hn).1, rfl⟩)
theorem Asked.down (h : Asked bs l d x) {X Y : Int} (hF : Fits l d x X Y) : ∃ X' ∈ xsD d l x, ∃ Y' ∈ ysD d l x, X' ≤ X ∧ Y' ≤ Y ∧ Fits l d x X' Y' := by
  obtain ⟨hX0, hY0, hXl, hYl, hf⟩ := hF
  have hl := h.len; have hw := h.wid
  obtain ⟨y0, hy0, hyY, hym⟩ := exists_floor Y (ysD d l x) ⟨0, (mem_ysD _).2 (.inl rfl), by omega⟩
  have hy0p := h.ys_in (h.ys_sub hy0)
  have f1 : Free l (x.at_ X y0) := by
    intro b hb e1 e2 e3
    have gb := good_box h.bays (h.good hb)
    have k := hf b hb e1 e2 e3
    refine ⟨k.1, fun ho => ?_⟩
    simp only [Sty.at_] at ho k e1 e2 e3
    have hm : b.y + b.wid ∈ ysD d l x := (mem_ysD _).2 (.inr ⟨b, hb, (near_iff h b).2 ⟨e1, e2, e3⟩, wrap_i64 (by omega) (by omega)⟩)
    by_cases hc : b.y + b.wid ≤ Y
    · have := hym _ hm hc; omega
    · exact k.2 ⟨by omega, by omega, by omega, by omega⟩
  obtain ⟨x0, hx0, hxX, hxm⟩ := exists_floor X (xsD d l x) ⟨0, (mem_xsD _).2 (.inl rfl), by omega⟩
  have hx0p := h.xs_in (h.xs_sub hx0)
  refine ⟨x0, hx0, y0, hy0, hxX, hyY, hx0p.1, hy0p.1, by omega, by omega, fun b hb e1 e2 e3 => ?_⟩
  have gb := good_box h.bays (h.good hb)
  have k := f1 b hb e1 e2 e3
  refine ⟨k.1, fun ho => ?_⟩
  simp only [Sty.at_] at ho k e1 e2 e3
  have hm : b.x + b.len ∈ xsD d l x := (mem_xsD _).2 (.inr ⟨b, hb, (near_iff h b).2 ⟨e1, e2, e3⟩, wrap_i64 (by omega) (by omega)⟩)
  by_cases hc : b.x + b.len ≤ X
  · have := hxm _ hm hc; omega
  · exact k.2 ⟨by omega, by omega, by omega, by omega⟩
theorem Asked.no_end (h : Asked bs l d x) {X Y : Int} (hF : Fits l d x X Y) : l.any (endBad d x) = false := by
  rw [List.any_eq_false]
  intro b hb hbad
  unfold endBad at hbad
  simp only [Bool.and_eq_true, bne_iff_ne, ne_eq] at hbad
  have hn := (near_iff h b).1 hbad.1
  exact hbad.2 (hF.2.2.2.2 b hb hn.1 hn.2.1 hn.2.2).1
theorem place_at (h : Asked bs l d x) : placeD d l x = atD bs l x := by
  unfold placeD atD
  cases hne : l.any (endBad d x)
  · rw [if_neg (by simp)]
    rw [scan_eq (P := Go.Proofs.okP d (besideL d l x) x) (Q := Go.Proofs.atOk bs l x) (sortI_asc _) (sortI_asc _) (cs_asc2 (ysA l x)) (cs_asc2 (xsA l x))
      (fun y hy => (mem_cs _ _).2 (h.ys_sub ((mem_sortI _ _).1 hy))) (fun y hy => (mem_cs _ _).2 (h.xs_sub ((mem_sortI _ _).1 hy))) ?_ ?_]
    · intro X hX Y hY
      rw [Bool.eq_iff_iff, h.okP hne (h.xs_in ((mem_cs _ _).1 hX)) (h.ys_in ((mem_cs _ _).1 hY)), h.atOk]
    · intro X _ Y _ hQ
      obtain ⟨X', hX', Y', hY', k1, k2, k3⟩ := h.down ((h.atOk X Y).1 hQ)
      exact ⟨X', (mem_sortI _ _).2 hX', Y', (mem_sortI _ _).2 hY', k1, k2, (h.atOk _ _).2 k3⟩
  · rw [if_pos rfl]
    cases hs : scanE (Go.Proofs.atOk bs l x) (Lib.compact (sortI (ysA l x))) (Lib.compact (sortI (xsA l x))) with
    | none => rfl
    | some o =>
      have := h.no_end ((h.atOk _ _).1 (scanE_some hs))
      rw [hne] at this; cases this
theorem at_some (h : Asked bs l d x) {X Y : Int} (hF : Fits l d x X Y) : (atD bs l x).isSome = true := by
  obtain ⟨X', hX', Y', hY', _, _, k3⟩ := h.down hF
  obtain ⟨o, ho⟩ := scanE_is (P := Go.Proofs.atOk bs l x) ((mem_cs _ _).2 (h.xs_sub hX')) ((mem_cs _ _).2 (h.ys_sub hY')) ((h.atOk _ _).2 k3)
  unfold atD
  rw [ho]; rfl
theorem at_is (h : Asked bs l d x) {y : Sty} (hy : atD bs l x = some y) : ∃ X Y, y = x.at_ X Y ∧ Fits l d x X Y := by
  unfold atD at hy
  cases hs : scanE (Go.Proofs.atOk bs l x) (Lib.compact (sortI (ysA l x))) (Lib.compact (sortI (xsA l x))) with
  | none => rw [hs] at hy; cases hy
  | some o =>
    rw [hs] at hy
    simp only [Option.map_some, Option.some.injEq] at hy
    exact ⟨o.1, o.2, hy.symm, (h.atOk _ _).1 (scanE_some hs)⟩
end
end Go.Proofs
namespace Go.Ab
open Go
theorem st_cod {P : Program} {d : Option Nat} {op : AOp} {deps : List Nat} {r : List AOper} {nm : Nat} {t : Nat → AV} {h : Nat → Option Blk} {K : AState → Prop} {f : FuncId} {vs lv : List AV} {ns : List (Nat × Blk)} {es : List (List AV)} {sz : Nat} {ty : TypeId} (hc : callee ⟨t, h⟩ op = some (f, vs)) (hl : lows ⟨t, h⟩ vs = lv) (hn : hls ⟨t, h⟩ vs = ns) (hp : PureOwn P f lv es sz ty) (hd : ∀ y ∈ es, ∀ c ∈ y, Dry c) (hm : nm ∉ ns.map (·.1)) (hk : aops P r (nm + 1) ⟨putT t d (.own nm), upd h nm (some (.row es sz ty))⟩ K) : aops P (⟨d, op, none, deps⟩ :: r) nm ⟨t, h⟩ K :=
  aops_lowO hc (by rw [hl, hn]; exact callO_dry hp hm hd hk)
end Go.Ab
namespace Go.Ab
open Go.RowKit
theorem lk_out {α : Type} {d : α} : ∀ {l : List (Nat × α)} {n : Nat}, n ∉ l.map (·.1) → lk d l n = d
  | [], _, _ => rfl
  | (k, x) :: l, n, h => by
    simp only [List.map_cons, List.mem_cons, not_or] at h
    simp only [lk]
    rw [if_neg h.1]
    exact lk_out h.2
theorem Ghost.mkB {bs nx nx' : Nat} {S : AState} {ts : List (Nat × AV)} {hs : List (Nat × Blk)} (ns : List (Nat × Nat)) (hnb : (ns.all fun p => decide (bs ≤ p.1)) = true) (hbx : bs ≤ nx')
    (hinj : (hs.all fun p => hs.all fun q => ren ns p.1 != ren ns q.1 || p.1 == q.1) = true)
    (hV : AllV S (deadH S []) (ren ns) nx' ts) (hB : AllB S (deadH S []) (ren ns) nx' hs) : Ghost bs nx S nx' (mkS ts hs) := by
  refine Ghost.view (ren ns) (deadH S []) (fun n hn => ⟨lk_out fun h => ?_, by omega⟩) (fun b blk hb => by simp [deadH] at hb) (allV_spec hV) (allB_spec hB) (fun n m b b' hb hb' he => ?_)
  · obtain ⟨p, hp, rfl⟩ := List.mem_map.1 h
    have := List.all_eq_true.1 hnb p hp
    simp only [decide_eq_true_eq] at this
    omega
  · have h1 := List.all_eq_true.1 hinj _ (listH_mem hb)
    have h2 := List.all_eq_true.1 h1 _ (listH_mem hb')
    simp only [Bool.or_eq_true, bne_iff_ne, ne_eq, beq_iff_eq] at h2
    rcases h2 with h2 | h2
    · exact absurd he h2
    · exact h2
theorem CallC.ownPre {P : Program} {f : FuncId} {args : List AV} {hl : List (Nat × Blk)} {nm b : Nat} {ups : List (Nat × Option Blk)} {es : List (List AV)} {sz : Nat} {e : TypeId} (h : CallC P f args hl nm (.own b) ups)
    (hu : updL (listH hl) ups b = some (.row es sz e)) (hm : b ∈ ups.map (·.1)) : CallC P f args hl nm (.pre b es.length) ups := by
  refine ⟨h.1, fun prov β w cs h1 h2 h3 h4 => (h.2 prov β w cs h1 h2 h3 h4).mono ?_⟩
  rintro e' w' ⟨c, β', he, a1, a2, a3, a4, a5, a6, a7, hv, a8, a9⟩
  obtain ⟨e1, ad, n, cap, e2⟩ := hv.own_inv
  obtain ⟨xs, hf⟩ := (a8 b _ hu hm).1
  rw [← e1, e2] at hf
  obtain ⟨hn, hnc, hcm, _⟩ := row_cap hf
  refine ⟨c, β', he, a1, a2, a3, a4, a5, a6, a7, ?_, a8, a9⟩
  rw [e2, hn]
  exact .pre b _ (n := n) (by rw [← e1, e2]) (by omega) hcm
theorem BView.lowO {hd : Nat → Option Blk} {ρ : Nat → Nat} {nx b : Nat} {es es' : List (List AV)} {sz : Nat} {e : TypeId} (hb : hd b = some (.row es sz e)) (he : es = es') : BView hd ρ nx (.box [.own b]) (.box [.sl es']) :=
  .box rfl fun j hj => by match j, hj with | 0, _ => exact .low (he ▸ Lower.own hb)
theorem BView.fn0 {hd : Nat → Option Blk} {ρ : Nat → Nat} {nx g : Nat} : BView hd ρ nx (.box [.fn g []]) (.box [.fn g []]) :=
  .box rfl fun j hj => by match j, hj with | 0, _ => exact .fn rfl fun j hj => by simp at hj
theorem View.fn6 {hd : Nat → Option Blk} {ρ : Nat → Nat} {nx f a b c d e g a' b' c' d' e' g' : Nat} (ha : ρ a' = a) (hb : ρ b' = b) (hc : ρ c' = c) (hd' : ρ d' = d) (he : ρ e' = e) (hg : ρ g' = g) (h : a' < nx ∧ b' < nx ∧ c' < nx ∧ d' < nx ∧ e' < nx ∧ g' < nx) :
    View hd ρ nx (.fn f [.bp a 0, .bp b 0, .bp c 0, .bp d 0, .bp e 0, .bp g 0]) (.fn f [.bp a' 0, .bp b' 0, .bp c' 0, .bp d' 0, .bp e' 0, .bp g' 0]) :=
  .fn rfl fun j hj => by match j, hj with | 0, _ => exact .bp ha h.1 | 1, _ => exact .bp hb h.2.1 | 2, _ => exact .bp hc h.2.2.1 | 3, _ => exact .bp hd' h.2.2.2.1 | 4, _ => exact .bp he h.2.2.2.2.1 | 5, _ => exact .bp hg h.2.2.2.2.2
theorem sl_cc {P : Program} {d : Option Nat} {op : AOp} {deps : List Nat} {r : List AOper} {nm : Nat} {t : Nat → AV} {h : Nat → Option Blk} {es : List Ent} {KL : AState → List Ent → Prop} {f : FuncId} {vs : List AV} {x : AV} {hl : List (Nat × Blk)} {u : List (Nat × Option Blk)} {h' : Nat → Option Blk}
    (hc : callee ⟨t, h⟩ op = some (f, vs)) (hcc : CallC P f vs hl nm x u) (hh : ∀ p ∈ hl, h p.1 = some p.2) (hu : ∀ p ∈ u, p.1 = nm ∨ p.1 ∈ hl.map (·.1)) (hm : nm ∉ hl.map (·.1)) (hw : updL h u = h')
    (hk : aopsL P r (nm + 1) ⟨putT t d x, h'⟩ (es ++ [⟨op.temps, hl.map (·.1), d, u.map (·.1)⟩]) KL) : aopsL P (⟨d, op, none, deps⟩ :: r) nm ⟨t, h⟩ es KL := by
  subst hw
  obtain ⟨e1, e2⟩ := eff_callee (P := P) (nm := nm) (an := ⟨x, u, hl⟩) hc
  exact aopsL_call ⟨x, u, hl⟩ (choosy_of_call e2) (by rw [e1]; exact ⟨hh, hu, hm, hcc⟩) (by rw [e1]; exact hk)
end Go.Ab
namespace Go.Ab
open Go.RowKit
section
variable {P : Program} {d : Option Nat} {op : AOp} {deps : List Nat} {r : List AOper} {nm : Nat} {t : Nat → AV} {h : Nat → Option Blk} {es : List Ent} {KL : AState → List Ent → Prop}
end
end Go.Ab
namespace Go.Proofs
open Go Go.Ab
set_option maxHeartbeats 4000000
set_option maxRecDepth 100000
attribute [local irreducible] Awp aops aopsL Go.Ab.Pure PureOwn
theorem stys_snoc (l : List Sty) (x : Sty) : stys l ++ [x.cells] = stys (l ++ [x]) := by simp [stys]
theorem dstays_ok (l : List Sty) (hl : l.length < 900000) : PureOwn Tryz.prog 27 [.sl (stys l)] (stys l) 8 78 := by
  refine fn_own Tryz.F27 (Nat.le_of_ble_eq_true rfl) ?_; unfold Tryz.ac27 AR AM AO
  repeat' (first
 | (apply Awp.sreg; (case hn => (simp only [List.length_cons, List.length_nil, Nat.reduceAdd] <;> rfl)))
 | (refine st_nil ?_)
 | (apply st_a; (case hc => rfl); (case he => (simp only [go_sem, *] <;> rfl)); (case hu => (simp only [updL_nil, updL_cons] <;> rfl)); (case hp => first | trivial))
 | refine Awp.block ?_
 | refine Awp.seq ?_)
  refine Awp.loop (fun i : Nat => i ≤ l.length) 40 (fun i => mkS [(3, .own 0), (6, .sl (stys l)), (7, .v (.int .i64 l.length)), (8, .v (.int .i64 i))] [(0, .row (stys (l.take i)) 8 78)]) (fun i => l.length - i) 0 (by omega) ?_ ?_
  · refine Ghost.trans (Ghost.name 3 8 78 rfl (by decide)) ?_
    have e1 : l.take 0 = [] := rfl
    rw [e1]
    (apply Ghost.mk [(0, 5)] []; (case hdead => rfl); (case hinj => rfl); (case hV => (simp only [go_sem, *]) <;> (repeat' (first | refine And.intro ?_ ?_ | exact View.int (by first | rfl | omega | (simp; done) | (rw [wrap_i64] <;> (try simp only [Int.natCast_add]) <;> omega) | (simp [*]; done)) | exact .own rfl (by decide)))); (case hB => (simp only [go_sem, *]) <;> (repeat' (first | exact ⟨_, rfl, .rowE (by first | rfl | omega | (simp; done) | (rw [wrap_i64] <;> (try simp only [Int.natCast_add]) <;> omega) | (simp [*]; done))⟩))))
  · intro i hi
    by_cases hlt : i < l.length
    · have hlt' : (i : Int) < l.length := by omega
      have hat := stys_at l i hlt
      have hz : ((l.getD i zeroSty).cells).length = 8 := rfl
      have htl : (l.take i).length = i := List.length_take_of_le hi
      have hst := take_snoc l zeroSty i hlt
      repeat' (first
 | (apply Awp.sreg; (case hn => (simp only [List.length_cons, List.length_nil, Nat.reduceAdd] <;> rfl)))
 | (refine st_nil ?_)
 | (apply st_a; (case hc => rfl); (case he => (simp only [go_sem, *] <;> rfl)); (case hu => (simp only [updL_nil, updL_cons] <;> rfl)); (case hp => first | trivial | omega | (simp; done) | (simp; omega)))
 | (apply Awp.reg; (case hn => (simp only [List.length_cons, List.length_nil, Nat.reduceAdd] <;> rfl)))
 | (refine Awp.skip ?_; try simp only [go_sem, *])
 | refine Awp.block ?_
 | (apply Awp.cond; (case hc => (simp only [go_sem, *] <;> rfl)); all_goals (intro hg; (try simp only [Bool.not_true, Bool.not_false, reduceCtorEq] at hg)))
 | refine Awp.seq ?_)
      refine ⟨i + 1, by omega, by omega, ?_⟩
      (apply Ghost.mk [(0, 60)] []; (case hdead => rfl); (case hinj => rfl); (case hV => (simp only [go_sem, *]) <;> (repeat' (first | refine And.intro ?_ ?_ | exact View.int (by first | rfl | exact stys_snoc _ _ | omega | (simp; done) | (rw [wrap_i64] <;> (try simp only [Int.natCast_add]) <;> omega) | (simp [*]; done)) | exact .own rfl (by decide)))); (case hB => (simp only [go_sem, *]) <;> (repeat' (first | exact ⟨_, rfl, .rowE (by first | rfl | exact stys_snoc _ _ | omega | (simp; done) | (rw [wrap_i64] <;> (try simp only [Int.natCast_add]) <;> omega) | (simp [*]; done))⟩))))
    · have hlt' : ¬ (i : Int) < l.length := by omega
      have e1 : l.take i = l := List.take_of_length_le (by omega)
      repeat' (first
 | (apply Awp.sreg; (case hn => (simp only [List.length_cons, List.length_nil, Nat.reduceAdd] <;> rfl)))
 | (refine st_nil ?_)
 | (apply st_a; (case hc => rfl); (case he => (simp only [go_sem, *] <;> rfl)); (case hu => (simp only [updL_nil, updL_cons] <;> rfl)); (case hp => first | trivial))
 | (refine Awp.ret ?_; try simp only [go_sem, *])
 | (refine Awp.exit ?_; try simp only [go_sem, *])
 | (apply Awp.cond; (case hc => (simp only [go_sem, *] <;> rfl)); all_goals (intro hg; (try simp only [Bool.not_true, Bool.not_false, reduceCtorEq] at hg)))
 | refine Awp.seq ?_)
      exact ⟨0, rfl, rfl⟩
theorem indexK_ok (l : List Sty) (g : Nat) (cs : List AV) (p : Sty → Bool) (hl : l.length < 1000000) (hp : ∀ x : Sty, Pure Tryz.prog g [x.av, .rp cs] (.v (.bool (p x)))) :
    Pure Tryz.prog 47 [.sl (stys l), .fn g [.rp cs]] (.v (.int .i64 (idxF p l))) := by
  refine fn_pure Tryz.F47 (Nat.le_of_ble_eq_true rfl) ?_; unfold Tryz.ac47 AR AM AO
  repeat' (first
 | (apply Awp.sreg; (case hn => (simp only [List.length_cons, List.length_nil, Nat.reduceAdd] <;> rfl)))
 | (refine st_nil ?_)
 | (apply st_a; (case hc => rfl); (case he => (simp only [go_sem, *] <;> rfl)); (case hu => (simp only [updL_nil, updL_cons] <;> rfl)); (case hp => first | trivial))
 | refine Awp.block ?_
 | refine Awp.seq ?_)
  refine Awp.loop (fun i : Nat => i ≤ l.length ∧ ∀ j, j < i → p (l.getD j zeroSty) = false) 40 (fun i => mkS [(0, .sl (stys l)), (1, .fn g [.rp cs]), (7, .v (.int .i64 l.length)), (8, .v (.int .i64 i))] []) (fun i => l.length - i) 0 (by simp) ?_ ?_
  · (apply Ghost.mk [] []; (case hdead => rfl); (case hinj => rfl); (case hV => (simp only [go_sem, *]) <;> (repeat' (first | refine And.intro ?_ ?_ | exact View.int (by first | rfl | omega | (simp; done) | (rw [wrap_i64] <;> (try simp only [Int.natCast_add]) <;> omega) | (simp [*]; done)) | (refine View.fnF ?_; (simp [AV.flat]; done))))); (case hB => (simp only [go_sem, *]) <;> (repeat' (first | skip; done))))
  · intro i ⟨hi, hj⟩
    by_cases hlt : i < l.length
    · have hlt' : (i : Int) < l.length := by omega
      have hat := stys_at l i hlt
      have hz : ((l.getD i zeroSty).cells).length = 8 := rfl
      have hpi := hp (l.getD i zeroSty)
      repeat' (first
 | (apply Awp.sreg; (case hn => (simp only [List.length_cons, List.length_nil, Nat.reduceAdd] <;> rfl)))
 | (refine st_nil ?_)
 | (apply st_a; (case hc => rfl); (case he => (simp only [go_sem, *] <;> rfl)); (case hu => (simp only [updL_nil, updL_cons] <;> rfl)); (case hp => first | trivial | omega))
 | (apply st_c; (case hc => (simp only [go_sem, *] <;> rfl)); (case hl => (simp only [go_sem, *] <;> rfl)); (case hn => (simp only [go_sem, *] <;> rfl)); (case hp => first | exact hpi | (have hXz := hpi; simp only [go_sem, *] at hXz; exact hXz)))
 | (apply Awp.reg; (case hn => (simp only [List.length_cons, List.length_nil, Nat.reduceAdd] <;> rfl)))
 | (refine Awp.ret ?_; try simp only [go_sem, *])
 | (refine Awp.skip ?_; try simp only [go_sem, *])
 | refine Awp.block ?_
 | (apply Awp.cond; (case hc => (simp only [go_sem, *] <;> rfl)); all_goals (intro hg; (try simp only [Bool.not_true, Bool.not_false, reduceCtorEq] at hg)))
 | refine Awp.seq ?_)
      · exact Lower.int (idxF_in hlt hg hj).symm
      · refine ⟨i + 1, ⟨by omega, ltSucc hj hg⟩, by omega, ?_⟩
        (apply Ghost.mk [] []; (case hdead => rfl); (case hinj => rfl); (case hV => (simp only [go_sem, *]) <;> (repeat' (first | refine And.intro ?_ ?_ | exact View.int (by first | rfl | omega | (simp; done) | (rw [wrap_i64] <;> (try simp only [Int.natCast_add]) <;> omega) | (simp [*]; done)) | (refine View.fnF ?_; (simp [AV.flat]; done))))); (case hB => (simp only [go_sem, *]) <;> (repeat' (first | skip; done))))
    · have hlt' : ¬ (i : Int) < l.length := by omega
      repeat' (first
 | (apply Awp.sreg; (case hn => (simp only [List.length_cons, List.length_nil, Nat.reduceAdd] <;> rfl)))
 | (refine st_nil ?_)
 | (apply st_a; (case hc => rfl); (case he => (simp only [go_sem, *] <;> rfl)); (case hu => (simp only [updL_nil, updL_cons] <;> rfl)); (case hp => first | trivial))
 | (refine Awp.ret ?_; try simp only [go_sem, *])
 | (refine Awp.exit ?_; try simp only [go_sem, *])
 | (apply Awp.cond; (case hc => (simp only [go_sem, *] <;> rfl)); all_goals (intro hg; (try simp only [Bool.not_true, Bool.not_false, reduceCtorEq] at hg); (try have hg' := hg); (try simp only [decide_eq_true_eq, decide_eq_false_iff_not, Bool.and_eq_true, Bool.or_eq_false_iff, bne_iff_ne, bne_eq_false_iff_eq, beq_iff_eq, beq_eq_false_iff_ne, Int.not_lt, Int.not_le, Int.ofNat_lt, Int.ofNat_le, Int.natCast_inj] at hg')))
 | refine Awp.seq ?_)
      exact Lower.int (idxF_out (Nat.le_of_not_lt hlt) hj).symm
theorem containsK_ok (l : List Sty) (g : Nat) (cs : List AV) (p : Sty → Bool) (hl : l.length < 1000000) (hp : ∀ x : Sty, Pure Tryz.prog g [x.av, .rp cs] (.v (.bool (p x)))) :
    Pure Tryz.prog 28 [.sl (stys l), .fn g [.rp cs]] (.v (.bool (l.any p))) := by
  have h := indexK_ok l g cs p hl hp
  rw [← idxF_any]
  refine fn_pure Tryz.F28 (Nat.le_of_ble_eq_true rfl) ?_; unfold Tryz.ac28 AR AM AO
  repeat' (first
 | (apply Awp.sreg; (case hn => (simp only [List.length_cons, List.length_nil, Nat.reduceAdd] <;> rfl)))
 | (refine st_nil ?_)
 | (apply st_a; (case hc => rfl); (case he => (simp only [go_sem, *] <;> rfl)); (case hu => (simp only [updL_nil, updL_cons] <;> rfl)); (case hp => first | trivial))
 | (apply st_c; (case hc => (simp only [go_sem, *] <;> rfl)); (case hl => (simp only [go_sem, *] <;> rfl)); (case hn => (simp only [go_sem, *] <;> rfl)); (case hp => first | exact h | (have hXz := h; simp only [go_sem, *] at hXz; exact hXz)))
 | (refine Awp.ret ?_; try simp only [go_sem, *]))
  all_goals repeat' (first | exact Lower.bool (by first | rfl | (simp only [true_and, Bool.true_and, Bool.false_and, Bool.and_true, Bool.and_false, Bool.true_or, Bool.false_or, reduceIte, Bool.false_eq_true, *]; done) | (simp only [true_and, reduceIte, Bool.false_eq_true, *] <;> rfl) | (simp [true_and]; done) | (simp_all [true_and]; done) | omega))
theorem hullC_ok (b x : Sty) : Pure Tryz.prog 29 [x.av, .rp b.cells] (.v (.bool (x.item.toList == b.item.toList))) := by
  refine fn_pure Tryz.F29 (Nat.le_of_ble_eq_true rfl) ?_; unfold Tryz.ac29 AR AM AO
  repeat' (first
 | (apply Awp.sreg; (case hn => (simp only [List.length_cons, List.length_nil, Nat.reduceAdd] <;> rfl)))
 | (refine st_nil ?_)
 | (apply st_a; (case hc => rfl); (case he => (simp only [go_sem, *] <;> rfl)); (case hu => (simp only [updL_nil, updL_cons] <;> rfl)); (case hp => first | trivial))
 | (refine Awp.ret ?_; try simp only [go_sem, *]))
  all_goals repeat' (first | exact Lower.bool (by first | rfl | (simp only [true_and, Bool.true_and, Bool.false_and, Bool.and_true, Bool.and_false, Bool.true_or, Bool.false_or, reduceIte, Bool.false_eq_true, *]; done) | (simp only [true_and, reduceIte, Bool.false_eq_true, *] <;> rfl) | (simp [true_and]; done) | (simp_all [true_and]; done) | omega))
theorem dock_dup {bs : List By} {l : List Sty} {i : Nat} (hC : checkE bs l = 0) (hi : i < l.length) (h : dupB l i = true) : dockE bs l = 7 := by
  have h2 : (List.range l.length).any (dupB l) = true := List.any_eq_true.2 ⟨i, List.mem_range.2 hi, h⟩
  unfold dockE
  rw [if_neg (by rw [hC]; simp), if_pos h2]
theorem dock_nodup {l : List Sty} (h : ∀ j, j < l.length → dupB l j = false) : (List.range l.length).any (dupB l) = false := by
  rw [List.any_eq_false]
  intro j hj
  rw [h j (List.mem_range.1 hj)]; simp
theorem dock_clash {bs : List By} {l : List Sty} {i k : Nat} (hC : checkE bs l = 0) (hd : (List.range l.length).any (dupB l) = false) (hi : i < l.length) (hk : k < l.length) (h : clashB (l.getD i zeroSty) (l.getD k zeroSty) = true) : dockE bs l = 14 := by
  unfold dockE
  rw [if_neg (by rw [hC]; simp), if_neg (by rw [hd]; simp), if_pos (any_in (d := zeroSty) hi (any_in (d := zeroSty) hk h))]
theorem dock_fine {bs : List By} {l : List Sty} (hC : checkE bs l = 0) (hd : (List.range l.length).any (dupB l) = false) (h : ∀ j, j < l.length → l.any (clashB (l.getD j zeroSty)) = false) : dockE bs l = 0 := by
  unfold dockE
  rw [if_neg (by rw [hC]; simp), if_neg (by rw [hd]; simp), if_neg (by rw [any_end (d := zeroSty) (Nat.le_refl _) h]; simp)]
theorem dock_first {bs : List By} {l : List Sty} (hC : ¬ checkE bs l = 0) : dockE bs l = checkE bs l := by
  unfold dockE
  rw [if_pos (by simpa using hC)]
theorem dcheck_ok (bs : List By) (l : List Sty) (hb : bs.length < 100000) (hl : l.length < 100000) : Pure Tryz.prog 12 [.sl (bys bs), .sl (stys l)] (.v (.int .i64 (dockE bs l))) := by
  have c0 := dstays_ok l (by omega)
  have c1 := check_ok bs l hb hl
  by_cases hC : checkE bs l = 0
  case neg =>
    rw [dock_first hC]
    have hC' : (checkE bs l != 0) = true := by simpa using hC
    generalize checkE bs l = e at *
    refine fn_pure Tryz.F12 (Nat.le_of_ble_eq_true rfl) ?_; unfold Tryz.ac12 AR AM AO
    repeat' (first
 | (apply Awp.sreg; (case hn => (simp only [List.length_cons, List.length_nil, Nat.reduceAdd] <;> rfl)))
 | (refine st_nil ?_)
 | (apply st_a; (case hc => rfl); (case he => (simp only [go_sem, *] <;> rfl)); (case hu => (simp only [updL_nil, updL_cons] <;> rfl)); (case hp => first | trivial))
 | (apply st_co; (case hc => (simp only [go_sem, *] <;> rfl)); (case hl => (simp only [go_sem, *] <;> rfl)); (case hn => (simp only [go_sem, *] <;> rfl)); (case hp => first | exact c0 | (have hXz := c0; simp only [go_sem, *] at hXz; exact hXz)))
 | (apply st_cd; (case hc => (simp only [go_sem, *] <;> rfl)); (case hl => (simp only [go_sem, *] <;> rfl)); (case hn => (simp only [go_sem, *] <;> rfl)); (case hp => first | exact c1 | (have hXz := c1; simp only [go_sem, *] at hXz; exact hXz)); (case hd => first | exact .v _ | exact .any | exact .nils | (repeat' (first | exact Dry.v _ | exact Dry.any | exact Dry.nils | exact Dry.slE | refine Dry.agg ?_ | refine Dry.tup ?_ | (refine List.forall_mem_cons.2 (And.intro ?_ ?_)) | (intro cQ hQ; cases hQ; done)))); (case hm => first | decide | (simp; done)))
 | (refine Awp.ret ?_; try simp only [go_sem, *])
 | (apply Awp.cond; (case hc => (simp only [go_sem, *] <;> rfl)); all_goals (intro hg; (try simp only [Bool.not_true, Bool.not_false, reduceCtorEq] at hg)))
 | refine Awp.seq ?_)
    all_goals repeat' (first | exact Lower.int (by first | rfl | (simp only [true_and, Bool.true_and, Bool.false_and, Bool.and_true, Bool.and_false, Bool.true_or, Bool.false_or, reduceIte, Bool.false_eq_true, *]; done) | (simp only [true_and, reduceIte, Bool.false_eq_true, *] <;> rfl) | (simp [true_and]; done) | (simp_all [true_and]; done) | omega))
  rw [hC] at c1
  refine fn_pure Tryz.F12 (Nat.le_of_ble_eq_true rfl) ?_; unfold Tryz.ac12 AR AM AO
  repeat' (first
 | (apply Awp.sreg; (case hn => (simp only [List.length_cons, List.length_nil, Nat.reduceAdd] <;> rfl)))
 | (refine st_nil ?_)
 | (apply st_a; (case hc => rfl); (case he => (simp only [go_sem, *] <;> rfl)); (case hu => (simp only [updL_nil, updL_cons] <;> rfl)); (case hp => first | trivial))
 | (apply st_co; (case hc => (simp only [go_sem, *] <;> rfl)); (case hl => (simp only [go_sem, *] <;> rfl)); (case hn => (simp only [go_sem, *] <;> rfl)); (case hp => first | exact c0 | (have hXz := c0; simp only [go_sem, *] at hXz; exact hXz)))
 | (apply st_cd; (case hc => (simp only [go_sem, *] <;> rfl)); (case hl => (simp only [go_sem, *] <;> rfl)); (case hn => (simp only [go_sem, *] <;> rfl)); (case hp => first | exact c1 | (have hXz := c1; simp only [go_sem, *] at hXz; exact hXz)); (case hd => first | exact .v _ | exact .any | exact .nils | (repeat' (first | exact Dry.v _ | exact Dry.any | exact Dry.nils | exact Dry.slE | refine Dry.agg ?_ | refine Dry.tup ?_ | (refine List.forall_mem_cons.2 (And.intro ?_ ?_)) | (intro cQ hQ; cases hQ; done)))); (case hm => first | decide | (simp; done)))
 | (refine Awp.skip ?_; try simp only [go_sem, *])
 | refine Awp.block ?_
 | (apply Awp.cond; (case hc => (simp only [go_sem, *] <;> rfl)); all_goals (intro hg; (try simp only [Bool.not_true, Bool.not_false, reduceCtorEq] at hg)))
 | refine Awp.seq ?_)
  clear c0 c1
  refine Awp.loop (fun i : Nat => i ≤ l.length ∧ ∀ j, j < i → dupB l j = false) 60 (fun i => mkS [(1, .sl (stys l)), (19, .sl (stys l)), (20, .v (.int .i64 l.length)), (21, .v (.int .i64 i))] []) (fun i => l.length - i) 0 (by simp) ?_ ?_
  · (apply Ghost.mk [] []; (case hdead => rfl); (case hinj => rfl); (case hV => (simp only [go_sem, *]) <;> (repeat' (first | exact View.int (by first | rfl | omega | (simp; done) | (rw [wrap_i64] <;> (try simp only [Int.natCast_add]) <;> omega) | (simp [*]; done))))); (case hB => (simp only [go_sem, *]) <;> (repeat' (first | skip; done))))
  · intro i ⟨hi, hj⟩
    by_cases hlt : i < l.length
    · have hlt' : (i : Int) < l.length := by omega
      have hat := stys_at l i hlt
      have hz : ((l.getD i zeroSty).cells).length = 8 := rfl
      have h3 := stys_one l
      have ht := stys_take l i
      have hle : (i : Int) ≤ l.length := by omega
      have h00 : (0 : Int) ≤ i := by omega
      have c3 := containsK_ok (l.take i) 29 (l.getD i zeroSty).cells (fun x => x.item.toList == (l.getD i zeroSty).item.toList) (by simp; omega) (hullC_ok _)
      have hd : ((l.take i).any fun x => x.item.toList == (l.getD i zeroSty).item.toList) = dupB l i := rfl
      rw [hd] at c3
      clear hd
      cases hdd : dupB l i
      · rw [hdd] at c3
        repeat' (first
 | (apply Awp.sreg; (case hn => (simp only [List.length_cons, List.length_nil, Nat.reduceAdd] <;> rfl)))
 | (refine st_nil ?_)
 | (apply st_a; (case hc => rfl); (case he => (simp only [go_sem, *] <;> rfl)); (case hu => (simp only [updL_nil, updL_cons] <;> rfl)); (case hp => first | trivial))
 | (apply st_cd; (case hc => (simp only [go_sem, *] <;> rfl)); (case hl => (simp only [go_sem, *] <;> rfl)); (case hn => (simp only [go_sem, *] <;> rfl)); (case hp => first | exact c3 | (have hXz := c3; simp only [go_sem, *] at hXz; exact hXz)); (case hd => first | exact .v _ | exact .any | exact .nils | (repeat' (first | exact Dry.v _ | exact Dry.any | exact Dry.nils | exact Dry.slE | refine Dry.agg ?_ | refine Dry.tup ?_ | (refine List.forall_mem_cons.2 (And.intro ?_ ?_)) | (intro cQ hQ; cases hQ; done)))); (case hm => first | decide | (simp; done)))
 | (apply Awp.reg; (case hn => (simp only [List.length_cons, List.length_nil, Nat.reduceAdd] <;> rfl)))
 | (refine Awp.skip ?_; try simp only [go_sem, *])
 | refine Awp.block ?_
 | (apply Awp.cond; (case hc => (simp only [go_sem, *] <;> rfl)); all_goals (intro hg; (try simp only [Bool.not_true, Bool.not_false, reduceCtorEq] at hg)))
 | refine Awp.seq ?_)
        refine ⟨i + 1, ⟨by omega, ltSucc hj hdd⟩, by omega, ?_⟩
        (apply Ghost.mk [] []; (case hdead => rfl); (case hinj => rfl); (case hV => (simp only [go_sem, *]) <;> (repeat' (first | exact View.int (by first | rfl | omega | (simp; done) | (rw [wrap_i64] <;> (try simp only [Int.natCast_add]) <;> omega) | (simp [*]; done))))); (case hB => (simp only [go_sem, *]) <;> (repeat' (first | skip; done))))
      · rw [hdd] at c3
        repeat' (first
 | (apply Awp.sreg; (case hn => (simp only [List.length_cons, List.length_nil, Nat.reduceAdd] <;> rfl)))
 | (refine st_nil ?_)
 | (apply st_a; (case hc => rfl); (case he => (simp only [go_sem, *] <;> rfl)); (case hu => (simp only [updL_nil, updL_cons] <;> rfl)); (case hp => first | trivial))
 | (apply st_cd; (case hc => (simp only [go_sem, *] <;> rfl)); (case hl => (simp only [go_sem, *] <;> rfl)); (case hn => (simp only [go_sem, *] <;> rfl)); (case hp => first | exact c3 | (have hXz := c3; simp only [go_sem, *] at hXz; exact hXz)); (case hd => first | exact .v _ | exact .any | exact .nils | (repeat' (first | exact Dry.v _ | exact Dry.any | exact Dry.nils | exact Dry.slE | refine Dry.agg ?_ | refine Dry.tup ?_ | (refine List.forall_mem_cons.2 (And.intro ?_ ?_)) | (intro cQ hQ; cases hQ; done)))); (case hm => first | decide | (simp; done)))
 | (refine Awp.ret ?_; try simp only [go_sem, *])
 | (refine Awp.skip ?_; try simp only [go_sem, *])
 | refine Awp.block ?_
 | (apply Awp.cond; (case hc => (simp only [go_sem, *] <;> rfl)); all_goals (intro hg; (try simp only [Bool.not_true, Bool.not_false, reduceCtorEq] at hg)))
 | refine Awp.seq ?_)
        exact Lower.int (dock_dup hC hlt hdd).symm
    · have hlt' : ¬ (i : Int) < l.length := by omega
      have hd := dock_nodup fun j hjl => hj j (by omega)
      clear hj
      repeat' (first
 | (apply Awp.sreg; (case hn => (simp only [List.length_cons, List.length_nil, Nat.reduceAdd] <;> rfl)))
 | (refine st_nil ?_)
 | (apply st_a; (case hc => rfl); (case he => (simp only [go_sem, *] <;> rfl)); (case hu => (simp only [updL_nil, updL_cons] <;> rfl)); (case hp => first | trivial))
 | (refine Awp.exit ?_; try simp only [go_sem, *])
 | refine Awp.block ?_
 | (apply Awp.cond; (case hc => (simp only [go_sem, *] <;> rfl)); all_goals (intro hg; (try simp only [Bool.not_true, Bool.not_false, reduceCtorEq] at hg)))
 | refine Awp.seq ?_)
      clear hlt hlt' hi
      refine Awp.loop (fun i : Nat => i ≤ l.length ∧ ∀ j, j < i → l.any (clashB (l.getD j zeroSty)) = false) 100 (fun i => mkS [(1, .sl (stys l)), (32, .sl (stys l)), (33, .v (.int .i64 l.length)), (34, .v (.int .i64 i))] []) (fun i => l.length - i) 0 (by simp) ?_ ?_
      · (apply Ghost.mk [] []; (case hdead => rfl); (case hinj => rfl); (case hV => (simp only [go_sem, *]) <;> (repeat' (first | exact View.int (by first | rfl | omega | (simp; done) | (rw [wrap_i64] <;> (try simp only [Int.natCast_add]) <;> omega) | (simp [*]; done))))); (case hB => (simp only [go_sem, *]) <;> (repeat' (first | skip; done))))
      · intro i ⟨hi, hj⟩
        by_cases hlt : i < l.length
        · have hlt' : (i : Int) < l.length := by omega
          have hat := stys_at l i hlt
          have hz : ((l.getD i zeroSty).cells).length = 8 := rfl
          repeat' (first
 | (apply Awp.sreg; (case hn => (simp only [List.length_cons, List.length_nil, Nat.reduceAdd] <;> rfl)))
 | (refine st_nil ?_)
 | (apply st_a; (case hc => rfl); (case he => (simp only [go_sem, *] <;> rfl)); (case hu => (simp only [updL_nil, updL_cons] <;> rfl)); (case hp => first | trivial | omega))
 | (refine Awp.skip ?_; try simp only [go_sem, *])
 | refine Awp.block ?_
 | (apply Awp.cond; (case hc => (simp only [go_sem, *] <;> rfl)); all_goals (intro hg; (try simp only [Bool.not_true, Bool.not_false, reduceCtorEq] at hg)))
 | refine Awp.seq ?_)
          refine Awp.loop (fun k : Nat => k ≤ l.length ∧ ∀ j, j < k → clashB (l.getD i zeroSty) (l.getD j zeroSty) = false) 140 (fun k => mkS [(1, .sl (stys l)), (9, .bp 0 0), (32, .sl (stys l)), (33, .v (.int .i64 l.length)), (34, .v (.int .i64 i)), (38, .sl (stys l)), (39, .v (.int .i64 l.length)), (40, .v (.int .i64 k))] [(0, .box (l.getD i zeroSty).cells)]) (fun k => l.length - k) 0 (by simp) ?_ ?_
          · (apply Ghost.mk [(0, 103)] []; (case hdead => rfl); (case hinj => rfl); (case hV => (simp only [go_sem, *]) <;> (repeat' (first | refine And.intro ?_ ?_ | exact View.int (by first | rfl | omega | (simp; done) | (rw [wrap_i64] <;> (try simp only [Int.natCast_add]) <;> omega) | (simp [*]; done)) | exact .bp rfl (by decide)))); (case hB => (simp only [go_sem, *]) <;> (repeat' (first | exact ⟨_, rfl, BView.boxF rfl⟩))))
          · intro k ⟨hk, hjk⟩
            by_cases hlk : k < l.length
            · have hlk' : (k : Int) < l.length := by omega
              have hat2 := stys_at l k hlk
              have hz2 : ((l.getD k zeroSty).cells).length = 8 := rfl
              cases hcl : clashB (l.getD i zeroSty) (l.getD k zeroSty)
              · have hcl' := hcl
                unfold clashB at hcl'
                repeat' (first
 | (apply Awp.sreg; (case hn => (simp only [List.length_cons, List.length_nil, Nat.reduceAdd] <;> rfl)))
 | (refine st_nil ?_)
 | (apply st_a; (case hc => rfl); (case he => (simp only [go_sem, *] <;> rfl)); (case hu => (simp only [updL_nil, updL_cons] <;> rfl)); (case hp => first | trivial | omega))
 | (apply st_m; (case hc => rfl); (case hg => (simp only [go_sem, *] <;> rfl)); (case he => (intro hQz; (try simp only [wantB_t, wantB_f, Bool.and_eq_true, Bool.not_eq_true', Bool.not_true, Bool.not_false, and_true, true_and] at hQz); simp only [go_sem, *] <;> rfl)); (case hp => (intro hQz; (try simp only [wantB_t, wantB_f, Bool.and_eq_true, Bool.not_eq_true', Bool.or_eq_false_iff, decide_eq_true_eq, decide_eq_false_iff_not, beq_iff_eq, beq_eq_false_iff_ne, bne_iff_ne, bne_eq_false_iff_eq, Int.not_lt, Int.not_le, Int.ofNat_lt, Int.ofNat_le] at hQz); first | trivial)))
 | (apply Awp.reg; (case hn => (simp only [List.length_cons, List.length_nil, Nat.reduceAdd] <;> rfl)))
 | (refine Awp.skip ?_; try simp only [go_sem, *])
 | refine Awp.block ?_
 | (apply Awp.cond; (case hc => (simp only [go_sem, *] <;> rfl)); all_goals (intro hg; (try simp only [Bool.not_true, Bool.not_false, reduceCtorEq] at hg)))
 | refine Awp.seq ?_)
                refine ⟨k + 1, ⟨by omega, ltSucc hjk hcl⟩, by omega, ?_⟩
                (apply Ghost.mk [] []; (case hdead => rfl); (case hinj => rfl); (case hV => (simp only [go_sem, *]) <;> (repeat' (first | refine And.intro ?_ ?_ | exact View.int (by first | rfl | omega | (simp; done) | (rw [wrap_i64] <;> (try simp only [Int.natCast_add]) <;> omega) | (simp [*]; done)) | exact .bp rfl (by decide)))); (case hB => (simp only [go_sem, *]) <;> (repeat' (first | exact ⟨_, rfl, BView.boxF rfl⟩))))
              · have hcl' := hcl
                unfold clashB at hcl'
                have hdc := dock_clash hC hd hlt hlk hcl
                clear hcl hjk hj hC hd
                repeat' (first
 | (apply Awp.sreg; (case hn => (simp only [List.length_cons, List.length_nil, Nat.reduceAdd] <;> rfl)))
 | (refine st_nil ?_)
 | (apply st_a; (case hc => rfl); (case he => (simp only [go_sem, *] <;> rfl)); (case hu => (simp only [updL_nil, updL_cons] <;> rfl)); (case hp => first | trivial | omega))
 | (apply st_m; (case hc => rfl); (case hg => (simp only [go_sem, *] <;> rfl)); (case he => (intro hQz; (try simp only [wantB_t, wantB_f, Bool.and_eq_true, Bool.not_eq_true', Bool.not_true, Bool.not_false, and_true, true_and] at hQz); simp only [go_sem, *] <;> rfl)); (case hp => (intro hQz; (try simp only [wantB_t, wantB_f, Bool.and_eq_true, Bool.not_eq_true', Bool.or_eq_false_iff, decide_eq_true_eq, decide_eq_false_iff_not, beq_iff_eq, beq_eq_false_iff_ne, bne_iff_ne, bne_eq_false_iff_eq, Int.not_lt, Int.not_le, Int.ofNat_lt, Int.ofNat_le] at hQz); first | trivial)))
 | (refine Awp.ret ?_; try simp only [go_sem, *])
 | (refine Awp.skip ?_; try simp only [go_sem, *])
 | refine Awp.block ?_
 | (apply Awp.cond; (case hc => (simp only [go_sem, *] <;> rfl)); all_goals (intro hg; (try simp only [Bool.not_true, Bool.not_false, reduceCtorEq] at hg)))
 | refine Awp.seq ?_)
                all_goals repeat' (first | exact Lower.int (by first | rfl | (simp only [true_and, Bool.true_and, Bool.false_and, Bool.and_true, Bool.and_false, Bool.true_or, Bool.false_or, reduceIte, Bool.false_eq_true, *]; done) | (simp only [true_and, reduceIte, Bool.false_eq_true, *] <;> rfl) | (simp [true_and]; done) | (simp_all [true_and]; done) | omega))
            · have hlk' : ¬ (k : Int) < l.length := by omega
              have hn := any_end (d := zeroSty) (Nat.le_of_not_lt hlk) hjk
              clear hjk
              repeat' (first
 | (apply Awp.sreg; (case hn => (simp only [List.length_cons, List.length_nil, Nat.reduceAdd] <;> rfl)))
 | (refine st_nil ?_)
 | (apply st_a; (case hc => rfl); (case he => (simp only [go_sem, *] <;> rfl)); (case hu => (simp only [updL_nil, updL_cons] <;> rfl)); (case hp => first | trivial))
 | (apply Awp.reg; (case hn => (simp only [List.length_cons, List.length_nil, Nat.reduceAdd] <;> rfl)))
 | (refine Awp.exit ?_; try simp only [go_sem, *])
 | (apply Awp.cond; (case hc => (simp only [go_sem, *] <;> rfl)); all_goals (intro hg; (try simp only [Bool.not_true, Bool.not_false, reduceCtorEq] at hg)))
 | refine Awp.seq ?_)
              refine ⟨i + 1, ⟨by omega, ltSucc hj hn⟩, by omega, ?_⟩
              (apply Ghost.mk [] []; (case hdead => rfl); (case hinj => rfl); (case hV => (simp only [go_sem, *]) <;> (repeat' (first | exact View.int (by first | rfl | omega | (simp; done) | (rw [wrap_i64] <;> (try simp only [Int.natCast_add]) <;> omega) | (simp [*]; done))))); (case hB => (simp only [go_sem, *]) <;> (repeat' (first | skip; done))))
        · have hlt' : ¬ (i : Int) < l.length := by omega
          have hf := dock_fine hC hd fun j hjl => hj j (by omega)
          clear hj
          repeat' (first
 | (apply Awp.sreg; (case hn => (simp only [List.length_cons, List.length_nil, Nat.reduceAdd] <;> rfl)))
 | (refine st_nil ?_)
 | (apply st_a; (case hc => rfl); (case he => (simp only [go_sem, *] <;> rfl)); (case hu => (simp only [updL_nil, updL_cons] <;> rfl)); (case hp => first | trivial))
 | (refine Awp.ret ?_; try simp only [go_sem, *])
 | (refine Awp.exit ?_; try simp only [go_sem, *])
 | (apply Awp.cond; (case hc => (simp only [go_sem, *] <;> rfl)); all_goals (intro hg; (try simp only [Bool.not_true, Bool.not_false, reduceCtorEq] at hg)))
 | refine Awp.seq ?_)
          all_goals repeat' (first | exact Lower.int (by first | rfl | (simp only [true_and, Bool.true_and, Bool.false_and, Bool.and_true, Bool.and_false, Bool.true_or, Bool.false_or, reduceIte, Bool.false_eq_true, *]; done) | (simp only [true_and, reduceIte, Bool.false_eq_true, *] <;> rfl) | (simp [true_and]; done) | (simp_all [true_and]; done) | omega))
end Go.Proofs
namespace Go.Ab
end Go.Ab
namespace Go.Ab
end Go.Ab
namespace Go.Proofs
open Go Go.Ab
set_option maxHeartbeats 8000000
set_option maxRecDepth 100000
attribute [local irreducible] Awp aops aopsL Go.Ab.Pure PureOwn
theorem take_snocI (l : List Int) (i : Nat) (h : i < l.length) : l.take (i + 1) = l.take i ++ [l.getD i 0] := take_snoc l 0 i h
theorem ints_dry (l : List Int) : ∀ y ∈ ints l, ∀ c ∈ y, Dry c := by
  intro y hy c hc
  obtain ⟨z, _, rfl⟩ := List.mem_map.1 hy
  rw [List.mem_singleton.1 hc]
  exact .v _
def inNm (nm : ByteArray) (b : Sty) : Bool := b.bay.toList == nm.toList
def floodL (l : List Sty) (nm : ByteArray) : List Int := (l.filter (inNm nm)).map (·.b)
def floodZ (l : List Sty) (nm : ByteArray) : List Int := Lib.compact (sortI (floodL l nm))
theorem floodL_len (l : List Sty) (nm : ByteArray) : (floodL l nm).length ≤ l.length := by
  have := List.length_filter_le (inNm nm) l
  simp [floodL]; omega
theorem floodZ_len (l : List Sty) (nm : ByteArray) : (floodZ l nm).length ≤ l.length := by
  unfold floodZ
  refine Nat.le_trans (compact_len _) ?_
  rw [sortI_len]
  exact floodL_len l nm
theorem floodL_step (l : List Sty) (nm : ByteArray) (i : Nat) (h : i < l.length) : floodL (l.take (i + 1)) nm = floodL (l.take i) nm ++ (if inNm nm (l.getD i zeroSty) = true then [(l.getD i zeroSty).b] else []) := by
  rw [take_snoc l zeroSty i h]
  unfold floodL
  rw [List.filter_append, List.map_append]
  congr 1
  by_cases hp : inNm nm (l.getD i zeroSty) = true
  · rw [if_pos hp, List.filter_cons_of_pos (by exact hp)]; rfl
  · rw [if_neg hp, List.filter_cons_of_neg (by exact hp)]; rfl
theorem floods_ok (l : List Sty) (nm : ByteArray) (hl : l.length < 900000) : PureOwn Tryz.prog 15 [.sl (stys l), .v (.string nm)] (ints (floodZ l nm)) 1 3 := by
  refine fn_own Tryz.F15 (Nat.le_of_ble_eq_true rfl) ?_; unfold Tryz.ac15 AR AM AO
  repeat' (first
 | (apply Awp.sreg; (case hn => (simp only [List.length_cons, List.length_nil, Nat.reduceAdd] <;> rfl)))
 | (refine st_nil ?_)
 | (apply st_a; (case hc => rfl); (case he => (simp only [go_sem, *] <;> rfl)); (case hu => (simp only [updL_nil, updL_cons] <;> rfl)); (case hp => first | trivial))
 | refine Awp.block ?_
 | refine Awp.seq ?_)
  refine Awp.loop (fun i : Nat => i ≤ l.length) 50 (fun i => mkS [(1, .v (.string nm)), (5, .own 0), (8, .sl (stys l)), (9, .v (.int .i64 l.length)), (10, .v (.int .i64 i))] [(0, .row (ints (floodL (l.take i) nm)) 1 3)]) (fun i => l.length - i) 0 (by omega) ?_ ?_
  · refine Ghost.trans (Ghost.name 5 1 3 rfl (by decide)) ?_
    have e1 : floodL (l.take 0) nm = [] := rfl
    rw [e1]
    (apply Ghost.mk [(0, 5)] []; (case hdead => rfl); (case hinj => rfl); (case hV => (simp only [go_sem, *]) <;> (repeat' (first | refine And.intro ?_ ?_ | exact View.int (by first | rfl | omega | (simp; done) | (rw [wrap_i64] <;> (try simp only [Int.natCast_add]) <;> omega) | (simp [*]; done)) | exact .own rfl (by decide)))); (case hB => (simp only [go_sem, *]) <;> (repeat' (first | exact ⟨_, rfl, .rowE (by first | rfl | omega | (simp; done) | (rw [wrap_i64] <;> (try simp only [Int.natCast_add]) <;> omega) | (simp [*]; done))⟩))))
  · intro i hi
    by_cases hlt : i < l.length
    · have hlt' : (i : Int) < l.length := by omega
      have hat := stys_at l i hlt
      have hz : ((l.getD i zeroSty).cells).length = 8 := rfl
      have hst := floodL_step l nm i hlt
      have hln := floodL_len (l.take i) nm
      have htl : (l.take i).length = i := List.length_take_of_le hi
      cases hB : inNm nm (l.getD i zeroSty)
      · rw [hB] at hst
        simp only [Bool.false_eq_true, if_false, List.append_nil] at hst
        unfold inNm at hB
        repeat' (first
 | (apply Awp.sreg; (case hn => (simp only [List.length_cons, List.length_nil, Nat.reduceAdd] <;> rfl)))
 | (refine st_nil ?_)
 | (apply st_a; (case hc => rfl); (case he => (simp only [go_sem, *] <;> rfl)); (case hu => (simp only [updL_nil, updL_cons] <;> rfl)); (case hp => first | trivial | omega))
 | (apply Awp.reg; (case hn => (simp only [List.length_cons, List.length_nil, Nat.reduceAdd] <;> rfl)))
 | (refine Awp.skip ?_; try simp only [go_sem, *])
 | refine Awp.block ?_
 | (apply Awp.cond; (case hc => (simp only [go_sem, *] <;> rfl)); all_goals (intro hg; (try simp only [Bool.not_true, Bool.not_false, reduceCtorEq] at hg)))
 | refine Awp.seq ?_)
        refine ⟨i + 1, by omega, by omega, ?_⟩
        (apply Ghost.mk [] []; (case hdead => rfl); (case hinj => rfl); (case hV => (simp only [go_sem, *]) <;> (repeat' (first | refine And.intro ?_ ?_ | exact View.int (by first | rfl | omega | (simp; done) | (rw [wrap_i64] <;> (try simp only [Int.natCast_add]) <;> omega) | (simp [*]; done)) | exact .own rfl (by decide)))); (case hB => (simp only [go_sem, *]) <;> (repeat' (first | exact ⟨_, rfl, .rowE (by first | rfl | omega | (simp; done) | (rw [wrap_i64] <;> (try simp only [Int.natCast_add]) <;> omega) | (simp [*]; done))⟩))))
      · rw [hB] at hst
        simp only [if_true] at hst
        unfold inNm at hB
        repeat' (first
 | (apply Awp.sreg; (case hn => (simp only [List.length_cons, List.length_nil, Nat.reduceAdd] <;> rfl)))
 | (refine st_nil ?_)
 | (apply st_a; (case hc => rfl); (case he => (simp only [go_sem, *] <;> rfl)); (case hu => (simp only [updL_nil, updL_cons] <;> rfl)); (case hp => first | trivial | omega | (simp; done) | (simp; omega)))
 | (apply Awp.reg; (case hn => (simp only [List.length_cons, List.length_nil, Nat.reduceAdd] <;> rfl)))
 | (refine Awp.skip ?_; try simp only [go_sem, *])
 | refine Awp.block ?_
 | (apply Awp.cond; (case hc => (simp only [go_sem, *] <;> rfl)); all_goals (intro hg; (try simp only [Bool.not_true, Bool.not_false, reduceCtorEq] at hg)))
 | refine Awp.seq ?_)
        refine ⟨i + 1, by omega, by omega, ?_⟩
        (apply Ghost.mk [(0, 64)] []; (case hdead => rfl); (case hinj => rfl); (case hV => (simp only [go_sem, *]) <;> (repeat' (first | refine And.intro ?_ ?_ | exact View.int (by first | rfl | exact ints_snoc _ _ | omega | (simp; done) | (rw [wrap_i64] <;> (try simp only [Int.natCast_add]) <;> omega) | (simp [*]; done)) | exact .own rfl (by decide)))); (case hB => (simp only [go_sem, *]) <;> (repeat' (first | exact ⟨_, rfl, .rowE (by first | rfl | exact ints_snoc _ _ | omega | (simp; done) | (rw [wrap_i64] <;> (try simp only [Int.natCast_add]) <;> omega) | (simp [*]; done))⟩))))
    · have hlt' : ¬ (i : Int) < l.length := by omega
      have e1 : l.take i = l := List.take_of_length_le (by omega)
      have hln := floodL_len l nm
      have hs2 : (sortI (floodL l nm)).length < 1000000 := by rw [sortI_len]; omega
      repeat' (first
 | (apply Awp.sreg; (case hn => (simp only [List.length_cons, List.length_nil, Nat.reduceAdd] <;> rfl)))
 | (refine st_nil ?_)
 | (apply st_a; (case hc => rfl); (case he => (simp only [go_sem, *] <;> rfl)); (case hu => (simp only [updL_nil, updL_cons] <;> rfl)); (case hp => first | trivial))
 | (apply st_cc; (case hc => (simp only [go_sem, *] <;> rfl)); (case hcc => exact sort_cc (floodL l nm) _ _ 3 (by omega)); (case hh => (first | (simp only [List.mem_singleton, forall_eq]; first | (simp only [go_sem, *] <;> rfl) | (simp only [go_sem, *]; simp [ints])) | (intro p hp; cases hp; done) | (intro p hp; simp only [List.mem_cons, List.not_mem_nil, or_false] at hp; rcases hp with rfl | rfl | rfl | rfl | rfl | rfl | rfl <;> (simp only [go_sem, *] <;> rfl)) | (intro p hp; simp only [List.mem_cons, List.not_mem_nil, or_false] at hp; rcases hp with rfl | rfl | rfl | rfl <;> (simp only [go_sem, *] <;> rfl)))); (case hu => (first | (simp; done) | decide)); (case hm => (first | decide | (simp; done))); (case hw => (simp only [updL_nil, updL_cons] <;> rfl)))
 | (apply st_cc; (case hc => (simp only [go_sem, *] <;> rfl)); (case hcc => exact compact_cc (sortI (floodL l nm)) _ _ 3 (by decide) hs2); (case hh => (first | (simp only [List.mem_singleton, forall_eq]; first | (simp only [go_sem, *] <;> rfl) | (simp only [go_sem, *]; simp [ints])) | (intro p hp; cases hp; done) | (intro p hp; simp only [List.mem_cons, List.not_mem_nil, or_false] at hp; rcases hp with rfl | rfl | rfl | rfl | rfl | rfl | rfl <;> (simp only [go_sem, *] <;> rfl)) | (intro p hp; simp only [List.mem_cons, List.not_mem_nil, or_false] at hp; rcases hp with rfl | rfl | rfl | rfl <;> (simp only [go_sem, *] <;> rfl)))); (case hu => (first | (simp; done) | decide)); (case hm => (first | decide | (simp; done))); (case hw => (simp only [updL_nil, updL_cons] <;> rfl)))
 | (refine Awp.ret ?_; try simp only [go_sem, *])
 | (refine Awp.exit ?_; try simp only [go_sem, *])
 | (apply Awp.cond; (case hc => (simp only [go_sem, *] <;> rfl)); all_goals (intro hg; (try simp only [Bool.not_true, Bool.not_false, reduceCtorEq] at hg)))
 | refine Awp.seq ?_)
      exact ⟨54, rfl, rfl⟩
theorem meet_ok (p q : Sty) : Pure Tryz.prog 64 [p.av, q.av] (.v (.bool (meetB p q))) := by
  refine fn_pure Tryz.F64 (Nat.le_of_ble_eq_true rfl) ?_; unfold Tryz.ac64 AR AM AO
  repeat' (first
 | (apply Awp.sreg; (case hn => (simp only [List.length_cons, List.length_nil, Nat.reduceAdd] <;> rfl)))
 | (refine st_nil ?_)
 | (apply st_a; (case hc => rfl); (case he => (simp only [go_sem, *] <;> rfl)); (case hu => (simp only [updL_nil, updL_cons] <;> rfl)); (case hp => first | trivial))
 | (apply st_m; (case hc => rfl); (case hg => (simp only [go_sem, *] <;> rfl)); (case he => (intro hQz; (try simp only [wantB_t, wantB_f, Bool.and_eq_true, Bool.not_eq_true', Bool.not_true, Bool.not_false, and_true, true_and] at hQz); simp only [go_sem, *] <;> rfl)); (case hp => (intro hQz; (try simp only [wantB_t, wantB_f, Bool.and_eq_true, Bool.not_eq_true', Bool.or_eq_false_iff, decide_eq_true_eq, decide_eq_false_iff_not, beq_iff_eq, beq_eq_false_iff_ne, bne_iff_ne, bne_eq_false_iff_eq, Int.not_lt, Int.not_le, Int.ofNat_lt, Int.ofNat_le] at hQz); first | trivial)))
 | (refine Awp.ret ?_; try simp only [go_sem, *]))
  all_goals repeat' (first | exact Lower.bool (by first | rfl | (simp only [meetB, Bool.true_and, Bool.false_and, Bool.and_true, Bool.and_false, Bool.true_or, Bool.false_or, reduceIte, Bool.false_eq_true, *]; done) | (simp only [meetB, reduceIte, Bool.false_eq_true, *] <;> rfl) | (simp [meetB]; done) | (simp_all [meetB]; done) | omega))
theorem meetC_ok (p q : Sty) : Pure Tryz.prog 63 [q.av, .rp p.cells] (.v (.bool (meetB p q))) := by
  refine fn_pure Tryz.F63 (Nat.le_of_ble_eq_true rfl) ?_; unfold Tryz.ac63 AR AM AO
  repeat' (first
 | (apply Awp.sreg; (case hn => (simp only [List.length_cons, List.length_nil, Nat.reduceAdd] <;> rfl)))
 | (refine st_nil ?_)
 | (apply st_a; (case hc => rfl); (case he => (simp only [go_sem, *] <;> rfl)); (case hu => (simp only [updL_nil, updL_cons] <;> rfl)); (case hp => first | trivial))
 | (apply st_c; (case hc => (simp only [go_sem, *] <;> rfl)); (case hl => (simp only [go_sem, *] <;> rfl)); (case hn => (simp only [go_sem, *] <;> rfl)); (case hp => first | exact meet_ok _ _ | (have hXz := meet_ok _ _; simp only [go_sem, *] at hXz; exact hXz)))
 | (refine Awp.ret ?_; try simp only [go_sem, *]))
  all_goals repeat' (first | exact Lower.bool (by first | rfl | (simp only [true_and, Bool.true_and, Bool.false_and, Bool.and_true, Bool.and_false, Bool.true_or, Bool.false_or, reduceIte, Bool.false_eq_true, *]; done) | (simp only [true_and, reduceIte, Bool.false_eq_true, *] <;> rfl) | (simp [true_and]; done) | (simp_all [true_and]; done) | omega))
def boxZ : List AV := zeroSty.cells
theorem beside_len (d : By) (l : List Sty) (x : Sty) : (besideL d l x).length ≤ l.length := List.length_filter_le _ _
theorem beside_step (d : By) (l : List Sty) (x : Sty) (i : Nat) (h : i < l.length) : besideL d (l.take (i + 1)) x = besideL d (l.take i) x ++ (if nearD d x (l.getD i zeroSty) = true then [l.getD i zeroSty] else []) := by
  rw [take_snoc l zeroSty i h]
  unfold besideL
  rw [List.filter_append]
  congr 1
  by_cases hp : nearD d x (l.getD i zeroSty) = true
  · rw [if_pos hp, List.filter_cons_of_pos (by exact hp)]; rfl
  · rw [if_neg hp, List.filter_cons_of_neg (by exact hp)]; rfl
def pl1 (d : By) (l : List Sty) (x : Sty) (near : List Sty) (xs ys : List Int) (i : Nat) : AState :=
  mkS [(3, .bp 0 0), (5, .bp 1 0), (6, .bp 2 0), (8, .own 3), (9, .own 4), (10, .own 5), (20, .sl (stys l)), (21, .v (.int .i64 l.length)), (22, .v (.int .i64 i))]
    [(0, .box d.cells), (1, .box x.cells), (2, .box boxZ), (3, .row (stys near) 8 43), (4, .row (ints xs) 1 3), (5, .row (ints ys) 1 3)]
def pl2 (d : By) (near : List Sty) (x : Sty) (xs ys : List Int) (q : Nat × (Int × Int)) : AState :=
  mkS [(3, .bp 0 0), (5, .bp 1 0), (6, .bp 2 0), (8, .own 3), (9, .own 4), (84, .own 5), (85, .v (.int .i64 ys.length)), (86, .v (.int .i64 q.1))]
    [(0, .box d.cells), (1, .box (x.at_ q.2.1 q.2.2).cells), (2, .box boxZ), (3, .row (stys near) 8 43), (4, .row (ints xs) 1 3), (5, .row (ints ys) 1 3)]
def pl3 (d : By) (near : List Sty) (x : Sty) (xs ys : List Int) (y : Int) (j : Nat) (q : Nat × (Int × Int)) : AState :=
  mkS [(3, .bp 0 0), (5, .bp 1 0), (6, .bp 2 0), (8, .own 3), (9, .own 4), (14, .v (.int .i64 y)), (84, .own 5), (85, .v (.int .i64 ys.length)), (86, .v (.int .i64 j)), (90, .own 4), (91, .v (.int .i64 xs.length)), (92, .v (.int .i64 q.1))]
    [(0, .box d.cells), (1, .box (x.at_ q.2.1 q.2.2).cells), (2, .box boxZ), (3, .row (stys near) 8 43), (4, .row (ints xs) 1 3), (5, .row (ints ys) 1 3)]
def plE : Option Sty → Sty × Bool
  | some y => (y, true)
  | none => (zeroSty, false)
theorem place_ok (d : By) (l : List Sty) (x : Sty) (hl : l.length < 90000) : Pure Tryz.prog 44 [d.av, .sl (stys l), x.av] (.tup [(plE (placeD d l x)).1.av, .v (.bool (plE (placeD d l x)).2)]) := by
  refine fn_pure Tryz.F44 (Nat.le_of_ble_eq_true rfl) ?_; unfold Tryz.ac44 AR AM AO
  repeat' (first
 | (apply Awp.sreg; (case hn => (simp only [List.length_cons, List.length_nil, Nat.reduceAdd] <;> rfl)))
 | (refine st_nil ?_)
 | (apply st_a; (case hc => rfl); (case he => (simp only [go_sem, *] <;> rfl)); (case hu => (simp only [updL_nil, updL_cons] <;> rfl)); (case hp => first | trivial | (simp; done)))
 | refine Awp.block ?_
 | refine Awp.seq ?_)
  refine Awp.loop (fun i : Nat => i ≤ l.length ∧ ∀ j, j < i → endBad d x (l.getD j zeroSty) = false) 100 (fun i => pl1 d l x (besideL d (l.take i) x) (xsD d (l.take i) x) (ysD d (l.take i) x) i) (fun i => l.length - i) 0 (by simp) ?_ ?_
  · refine Ghost.trans (Ghost.name 8 8 43 rfl (by decide)) ?_
    have e1 : xsD d (l.take 0) x = [0] := rfl
    have e2 : ysD d (l.take 0) x = [0] := rfl
    have e3 : besideL d (l.take 0) x = [] := rfl
    rw [e1, e2, e3]
    unfold pl1 boxZ
    (apply Ghost.mk [(3, 12), (4, 5), (5, 6)] []; (case hdead => rfl); (case hinj => rfl); (case hV => (simp only [go_sem, *]) <;> (repeat' (first | refine And.intro ?_ ?_ | exact View.int (by first | rfl | omega | (simp; done) | (rw [wrap_i64] <;> (try simp only [Int.natCast_add]) <;> omega) | (simp [*]; done)) | exact .bp rfl (by decide) | exact .own rfl (by decide)))); (case hB => (simp only [go_sem, *]) <;> (repeat' (first | refine And.intro ?_ ?_ | exact ⟨_, rfl, BView.boxF rfl⟩ | exact ⟨_, rfl, .rowE (by first | rfl | omega | (simp; done) | (rw [wrap_i64] <;> (try simp only [Int.natCast_add]) <;> omega) | (simp [*]; done))⟩))))
  · intro i ⟨hi, hj⟩
    by_cases hlt : i < l.length
    · have hlt' : (i : Int) < l.length := by omega
      have hat := stys_at l i hlt
      have hz : ((l.getD i zeroSty).cells).length = 8 := rfl
      have hst := beside_step d l x i hlt
      have hln := beside_len d (l.take i) x
      have htl : (l.take i).length = i := List.length_take_of_le hi
      have h1 := stys_one (besideL d (l.take i) x)
      cases hB : nearD d x (l.getD i zeroSty)
      · rw [hB] at hst
        simp only [Bool.false_eq_true, if_false, List.append_nil] at hst
        have hB' : ((!((l.getD i zeroSty).bay.toList == d.nm.toList)) || decide ((l.getD i zeroSty).b ≤ x.a) || decide (x.b ≤ (l.getD i zeroSty).a)) = true := by
          unfold nearD at hB
          simp only [Bool.and_eq_false_iff, beq_eq_false_iff_ne, decide_eq_false_iff_not] at hB
          simp only [Bool.or_eq_true, Bool.not_eq_true', beq_eq_false_iff_ne, decide_eq_true_eq]
          rcases hB with (hB | hB) | hB
          · exact .inl (.inl hB)
          · exact .inl (.inr (by omega))
          · exact .inr (by omega)
        have hb : endBad d x (l.getD i zeroSty) = false := by unfold endBad; rw [hB]; rfl
        have e2 : xsD d (l.take (i + 1)) x = xsD d (l.take i) x := by unfold xsD; rw [hst]
        have e3 : ysD d (l.take (i + 1)) x = ysD d (l.take i) x := by unfold ysD; rw [hst]
        clear hB
        unfold pl1 boxZ
        repeat' (first
 | (apply Awp.sreg; (case hn => (simp only [List.length_cons, List.length_nil, Nat.reduceAdd] <;> rfl)))
 | (refine st_nil ?_)
 | (apply st_a; (case hc => rfl); (case he => (simp only [go_sem, *] <;> rfl)); (case hu => (simp only [updL_nil, updL_cons] <;> rfl)); (case hp => first | trivial | omega))
 | (apply st_m; (case hc => rfl); (case hg => (simp only [go_sem, *] <;> rfl)); (case he => (intro hQz; (try simp only [wantB_t, wantB_f, Bool.and_eq_true, Bool.not_eq_true', Bool.not_true, Bool.not_false, and_true, true_and] at hQz); simp only [go_sem, *] <;> rfl)); (case hp => (intro hQz; (try simp only [wantB_t, wantB_f, Bool.and_eq_true, Bool.not_eq_true', Bool.or_eq_false_iff, decide_eq_true_eq, decide_eq_false_iff_not, beq_iff_eq, beq_eq_false_iff_ne, bne_iff_ne, bne_eq_false_iff_eq, Int.not_lt, Int.not_le, Int.ofNat_lt, Int.ofNat_le] at hQz); first | trivial)))
 | (apply Awp.reg; (case hn => (simp only [List.length_cons, List.length_nil, Nat.reduceAdd] <;> rfl)))
 | (refine Awp.skip ?_; try simp only [go_sem, *])
 | (refine Awp.exit ?_; try simp only [go_sem, *])
 | refine Awp.block ?_
 | (apply Awp.cond; (case hc => (simp only [go_sem, *] <;> rfl)); all_goals (intro hg; (try simp only [Bool.not_true, Bool.not_false, reduceCtorEq] at hg)))
 | refine Awp.seq ?_)
        refine ⟨i + 1, ⟨by omega, ltSucc hj hb⟩, by omega, ?_⟩
        rw [hst, e2, e3]
        (apply Ghost.mk [] []; (case hdead => rfl); (case hinj => rfl); (case hV => (simp only [go_sem, *]) <;> (repeat' (first | refine And.intro ?_ ?_ | exact View.int (by first | rfl | omega | (simp; done) | (rw [wrap_i64] <;> (try simp only [Int.natCast_add]) <;> omega) | (simp [*]; done)) | exact .bp rfl (by decide) | exact .own rfl (by decide)))); (case hB => (simp only [go_sem, *]) <;> (repeat' (first | refine And.intro ?_ ?_ | exact ⟨_, rfl, BView.boxF rfl⟩ | exact ⟨_, rfl, .rowE (by first | rfl | omega | (simp; done) | (rw [wrap_i64] <;> (try simp only [Int.natCast_add]) <;> omega) | (simp [*]; done))⟩))))
      · rw [hB] at hst
        simp only [if_true] at hst
        have hB' : ((!((l.getD i zeroSty).bay.toList == d.nm.toList)) || decide ((l.getD i zeroSty).b ≤ x.a) || decide (x.b ≤ (l.getD i zeroSty).a)) = false := by
          unfold nearD at hB
          simp only [Bool.and_eq_true, beq_iff_eq, decide_eq_true_eq] at hB
          simp only [Bool.or_eq_false_iff, Bool.not_eq_false', beq_iff_eq, decide_eq_false_iff_not]
          exact ⟨⟨hB.1.1, by omega⟩, by omega⟩
        cases hne : (l.getD i zeroSty).b != x.b
        · have hb : endBad d x (l.getD i zeroSty) = false := by unfold endBad; rw [hB, hne]; rfl
          have e2 : xsD d (l.take (i + 1)) x = xsD d (l.take i) x ++ [IntKind.i64.wrap ((l.getD i zeroSty).x + (l.getD i zeroSty).len)] := by unfold xsD; rw [hst]; simp
          have e3 : ysD d (l.take (i + 1)) x = ysD d (l.take i) x ++ [IntKind.i64.wrap ((l.getD i zeroSty).y + (l.getD i zeroSty).wid)] := by unfold ysD; rw [hst]; simp
          have hx1 : (xsD d (l.take i) x).length = (besideL d (l.take i) x).length + 1 := by simp [xsD]
          have hx2 : (ysD d (l.take i) x).length = (besideL d (l.take i) x).length + 1 := by simp [ysD]
          have e1 := stys_snoc (besideL d (l.take i) x) (l.getD i zeroSty)
          have e4 := ints_snoc (xsD d (l.take i) x) (IntKind.i64.wrap ((l.getD i zeroSty).x + (l.getD i zeroSty).len))
          have e5 := ints_snoc (ysD d (l.take i) x) (IntKind.i64.wrap ((l.getD i zeroSty).y + (l.getD i zeroSty).wid))
          rw [← hst] at e1
          rw [← e2] at e4
          rw [← e3] at e5
          clear hB e2 e3
          unfold pl1 boxZ
          repeat' (first
 | (apply Awp.sreg; (case hn => (simp only [List.length_cons, List.length_nil, Nat.reduceAdd] <;> rfl)))
 | (refine st_nil ?_)
 | (apply st_a; (case hc => rfl); (case he => (simp only [go_sem, *] <;> rfl)); (case hu => (simp only [updL_nil, updL_cons] <;> rfl)); (case hp => first | trivial | omega | (simp; done) | (simp; omega)))
 | (apply st_m; (case hc => rfl); (case hg => (simp only [go_sem, *] <;> rfl)); (case he => (intro hQz; (try simp only [wantB_t, wantB_f, Bool.and_eq_true, Bool.not_eq_true', Bool.not_true, Bool.not_false, and_true, true_and] at hQz); simp only [go_sem, *] <;> rfl)); (case hp => (intro hQz; (try simp only [wantB_t, wantB_f, Bool.and_eq_true, Bool.not_eq_true', Bool.or_eq_false_iff, decide_eq_true_eq, decide_eq_false_iff_not, beq_iff_eq, beq_eq_false_iff_ne, bne_iff_ne, bne_eq_false_iff_eq, Int.not_lt, Int.not_le, Int.ofNat_lt, Int.ofNat_le] at hQz); first | trivial)))
 | (apply Awp.reg; (case hn => (simp only [List.length_cons, List.length_nil, Nat.reduceAdd] <;> rfl)))
 | (refine Awp.skip ?_; try simp only [go_sem, *])
 | refine Awp.block ?_
 | (apply Awp.cond; (case hc => (simp only [go_sem, *] <;> rfl)); all_goals (intro hg; (try simp only [Bool.not_true, Bool.not_false, reduceCtorEq] at hg)))
 | refine Awp.seq ?_)
          refine ⟨i + 1, ⟨by omega, ltSucc hj hb⟩, by omega, ?_⟩
          (apply Ghost.mk [(3, 138), (4, 148), (5, 158)] []; (case hdead => rfl); (case hinj => rfl); (case hV => (simp only [go_sem, *]) <;> (repeat' (first | refine And.intro ?_ ?_ | exact View.int (by first | rfl | exact (stys_snoc _ _) | exact e4 | exact e5 | omega | (simp; done) | (rw [wrap_i64] <;> (try simp only [Int.natCast_add]) <;> omega) | (simp [*]; done)) | exact .bp rfl (by decide) | exact .own rfl (by decide)))); (case hB => (simp only [go_sem, *]) <;> (repeat' (first | refine And.intro ?_ ?_ | exact ⟨_, rfl, BView.boxF rfl⟩ | exact ⟨_, rfl, .rowE (by first | rfl | exact (stys_snoc _ _) | exact e4 | exact e5 | omega | (simp; done) | (rw [wrap_i64] <;> (try simp only [Int.natCast_add]) <;> omega) | (simp [*]; done))⟩))))
        · have hb : l.any (endBad d x) = true := any_in (d := zeroSty) hlt (by unfold endBad; rw [hB, hne]; rfl)
          have hr : placeD d l x = none := by unfold placeD; rw [if_pos hb]
          rw [hr]
          clear hr hb hj hst
          unfold pl1 boxZ
          repeat' (first
 | (apply Awp.sreg; (case hn => (simp only [List.length_cons, List.length_nil, Nat.reduceAdd] <;> rfl)))
 | (refine st_nil ?_)
 | (apply st_a; (case hc => rfl); (case he => (simp only [go_sem, *] <;> rfl)); (case hu => (simp only [updL_nil, updL_cons] <;> rfl)); (case hp => first | trivial | omega))
 | (apply st_m; (case hc => rfl); (case hg => (simp only [go_sem, *] <;> rfl)); (case he => (intro hQz; (try simp only [wantB_t, wantB_f, Bool.and_eq_true, Bool.not_eq_true', Bool.not_true, Bool.not_false, and_true, true_and] at hQz); simp only [go_sem, *] <;> rfl)); (case hp => (intro hQz; (try simp only [wantB_t, wantB_f, Bool.and_eq_true, Bool.not_eq_true', Bool.or_eq_false_iff, decide_eq_true_eq, decide_eq_false_iff_not, beq_iff_eq, beq_eq_false_iff_ne, bne_iff_ne, bne_eq_false_iff_eq, Int.not_lt, Int.not_le, Int.ofNat_lt, Int.ofNat_le] at hQz); first | trivial)))
 | (refine Awp.ret ?_; try simp only [go_sem, *])
 | (refine Awp.skip ?_; try simp only [go_sem, *])
 | refine Awp.block ?_
 | (apply Awp.cond; (case hc => (simp only [go_sem, *] <;> rfl)); all_goals (intro hg; (try simp only [Bool.not_true, Bool.not_false, reduceCtorEq] at hg)))
 | refine Awp.seq ?_)
          all_goals repeat' (first | exact Lower.bool (by first | rfl | (simp only [plE, zeroSty, Bool.true_and, Bool.false_and, Bool.and_true, Bool.and_false, Bool.true_or, Bool.false_or, reduceIte, Bool.false_eq_true, *]; done) | (simp only [plE, zeroSty, reduceIte, Bool.false_eq_true, *] <;> rfl) | (simp [plE, zeroSty]; done) | (simp_all [plE, zeroSty]; done) | omega) | exact Lower.int (by first | rfl | (simp only [plE, zeroSty, Bool.true_and, Bool.false_and, Bool.and_true, Bool.and_false, Bool.true_or, Bool.false_or, reduceIte, Bool.false_eq_true, *]; done) | (simp only [plE, zeroSty, reduceIte, Bool.false_eq_true, *] <;> rfl) | (simp [plE, zeroSty]; done) | (simp_all [plE, zeroSty]; done) | omega) | exact Lower.str (by first | rfl | (simp only [plE, zeroSty, Bool.true_and, Bool.false_and, Bool.and_true, Bool.and_false, Bool.true_or, Bool.false_or, reduceIte, Bool.false_eq_true, *]; done) | (simp only [plE, zeroSty, reduceIte, Bool.false_eq_true, *] <;> rfl) | (simp [plE, zeroSty]; done) | (simp_all [plE, zeroSty]; done) | omega) | refine Lower.aggF ?_ | refine Lower.tupF ?_ | refine All2.cons ?_ ?_ | exact All2.nil)
    · have hlt' : ¬ (i : Int) < l.length := by omega
      have e1 : l.take i = l := List.take_of_length_le (by omega)
      have hnl := beside_len d l x
      have hno : l.any (endBad d x) = false := any_end (d := zeroSty) (Nat.le_of_not_lt hlt) hj
      have hr : placeD d l x = (scanE (okP d (besideL d l x) x) (sortI (ysD d l x)) (sortI (xsD d l x))).map fun o => x.at_ o.1 o.2 := by unfold placeD; rw [hno]; rfl
      rw [e1, hr]
      have hx1 : (xsD d l x).length = (besideL d l x).length + 1 := by simp [xsD]
      have hx2 : (ysD d l x).length = (besideL d l x).length + 1 := by simp [ysD]
      have hs1 := sort_cc (xsD d l x) 4 900 3 (by omega)
      clear hr hno hj e1
      unfold pl1 boxZ
      repeat' (first
 | (apply Awp.sreg; (case hn => (simp only [List.length_cons, List.length_nil, Nat.reduceAdd] <;> rfl)))
 | (refine st_nil ?_)
 | (apply st_a; (case hc => rfl); (case he => (simp only [go_sem, *] <;> rfl)); (case hu => (simp only [updL_nil, updL_cons] <;> rfl)); (case hp => first | trivial))
 | (apply st_cc; (case hc => (simp only [go_sem, *] <;> rfl)); (case hcc => exact sort_cc (xsD d l x) _ _ 3 (by omega)); (case hh => (first | (simp only [List.mem_singleton, forall_eq]; first | (simp only [go_sem, *] <;> rfl) | (simp only [go_sem, *]; simp [ints])) | (intro p hp; cases hp; done) | (intro p hp; simp only [List.mem_cons, List.not_mem_nil, or_false] at hp; rcases hp with rfl | rfl | rfl | rfl | rfl | rfl | rfl <;> (simp only [go_sem, *] <;> rfl)) | (intro p hp; simp only [List.mem_cons, List.not_mem_nil, or_false] at hp; rcases hp with rfl | rfl | rfl | rfl <;> (simp only [go_sem, *] <;> rfl)))); (case hu => (first | (simp; done) | decide)); (case hm => (first | decide | (simp; done))); (case hw => (simp only [updL_nil, updL_cons] <;> rfl)))
 | (apply st_cc; (case hc => (simp only [go_sem, *] <;> rfl)); (case hcc => exact sort_cc (ysD d l x) _ _ 3 (by omega)); (case hh => (first | (simp only [List.mem_singleton, forall_eq]; first | (simp only [go_sem, *] <;> rfl) | (simp only [go_sem, *]; simp [ints])) | (intro p hp; cases hp; done) | (intro p hp; simp only [List.mem_cons, List.not_mem_nil, or_false] at hp; rcases hp with rfl | rfl | rfl | rfl | rfl | rfl | rfl <;> (simp only [go_sem, *] <;> rfl)) | (intro p hp; simp only [List.mem_cons, List.not_mem_nil, or_false] at hp; rcases hp with rfl | rfl | rfl | rfl <;> (simp only [go_sem, *] <;> rfl)))); (case hu => (first | (simp; done) | decide)); (case hm => (first | decide | (simp; done))); (case hw => (simp only [updL_nil, updL_cons] <;> rfl)))
 | (refine Awp.exit ?_; try simp only [go_sem, *])
 | refine Awp.block ?_
 | (apply Awp.cond; (case hc => (simp only [go_sem, *] <;> rfl)); all_goals (intro hg; (try simp only [Bool.not_true, Bool.not_false, reduceCtorEq] at hg)))
 | refine Awp.seq ?_)
      have hs3 := sortI_len (xsD d l x)
      have hs4 := sortI_len (ysD d l x)
      obtain ⟨A, hA⟩ : ∃ A, sortI (ysD d l x) = A := ⟨_, rfl⟩
      obtain ⟨C, hC⟩ : ∃ C, sortI (xsD d l x) = C := ⟨_, rfl⟩
      obtain ⟨N, hN⟩ : ∃ N, besideL d l x = N := ⟨_, rfl⟩
      rw [hA, hC, hN]
      rw [hA] at hs4
      rw [hC] at hs3
      rw [hN] at hnl hx1 hx2
      rw [hx1] at hs3
      rw [hx2] at hs4
      have hAl : A.length ≤ 90001 := by omega
      have hCl : C.length ≤ 90001 := by omega
      clear hA hC hN hs1 hlt hlt' hi hx1 hx2 hs3 hs4
      refine Awp.loop (fun q : Nat × (Int × Int) => q.1 ≤ A.length ∧ ∀ j, j < q.1 → (C.find? fun X => okP d N x X (A.getD j 0)) = none) 200
        (fun q => pl2 d N x C A q) (fun q => A.length - q.1) (0, (x.x, x.y)) ⟨Nat.zero_le _, fun j hj => by simp at hj⟩ ?_ ?_
      · unfold pl2 boxZ Sty.at_
        (apply Ghost.mk [] []; (case hdead => rfl); (case hinj => rfl); (case hV => (simp only [go_sem, *]) <;> (repeat' (first | refine And.intro ?_ ?_ | exact View.int (by first | rfl | omega | (simp; done) | (rw [wrap_i64] <;> (try simp only [Int.natCast_add]) <;> omega) | (simp [*]; done)) | exact .bp rfl (by decide) | exact .own rfl (by decide)))); (case hB => (simp only [go_sem, *]) <;> (repeat' (first | refine And.intro ?_ ?_ | exact ⟨_, rfl, BView.boxF rfl⟩ | exact ⟨_, rfl, .rowE (by first | rfl | omega | (simp; done) | (rw [wrap_i64] <;> (try simp only [Int.natCast_add]) <;> omega) | (simp [*]; done))⟩))))
      · intro ⟨j, ⟨X0, Y0⟩⟩ ⟨hj, hn⟩
        dsimp only at hj hn
        by_cases hlt : j < A.length
        · have hlt' : (j : Int) < A.length := by omega
          have hat := ints_at A j hlt
          unfold pl2 boxZ
          repeat' (first
 | (apply Awp.sreg; (case hn => (simp only [List.length_cons, List.length_nil, Nat.reduceAdd] <;> rfl)))
 | (refine st_nil ?_)
 | (apply st_a; (case hc => rfl); (case he => (simp only [go_sem, *] <;> rfl)); (case hu => (simp only [updL_nil, updL_cons] <;> rfl)); (case hp => first | trivial | omega))
 | (refine Awp.skip ?_; try simp only [go_sem, *])
 | refine Awp.block ?_
 | (apply Awp.cond; (case hc => (simp only [go_sem, *] <;> rfl)); all_goals (intro hg; (try simp only [Bool.not_true, Bool.not_false, reduceCtorEq] at hg)))
 | refine Awp.seq ?_)
          refine Awp.loop (fun q : Nat × (Int × Int) => q.1 ≤ C.length ∧ ∀ i, i < q.1 → okP d N x (C.getD i 0) (A.getD j 0) = false) 300
            (fun q => pl3 d N x C A (A.getD j 0) j q) (fun q => C.length - q.1) (0, (X0, Y0)) ⟨Nat.zero_le _, fun i hi => by simp at hi⟩ ?_ ?_
          · unfold pl3 boxZ
            (apply Ghost.mk [] []; (case hdead => rfl); (case hinj => rfl); (case hV => (simp only [go_sem, *]) <;> (repeat' (first | refine And.intro ?_ ?_ | exact View.int (by first | rfl | omega | (simp; done) | (rw [wrap_i64] <;> (try simp only [Int.natCast_add]) <;> omega) | (simp [*]; done)) | exact .bp rfl (by decide) | exact .own rfl (by decide)))); (case hB => (simp only [go_sem, *]) <;> (repeat' (first | refine And.intro ?_ ?_ | exact ⟨_, rfl, BView.boxF rfl⟩ | exact ⟨_, rfl, .rowE (by first | rfl | omega | (simp; done) | (rw [wrap_i64] <;> (try simp only [Int.natCast_add]) <;> omega) | (simp [*]; done))⟩))))
          · intro ⟨k, ⟨X1, Y1⟩⟩ ⟨hk, hno⟩
            dsimp only at hk hno
            by_cases hkl : k < C.length
            · have hkl' : (k : Int) < C.length := by omega
              have hat2 := ints_at C k hkl
              have c0 := containsK_ok N 63 (x.at_ (C.getD k 0) (A.getD j 0)).cells (meetB (x.at_ (C.getD k 0) (A.getD j 0))) (by omega) (meetC_ok _)
              cases hpb : okP d N x (C.getD k 0) (A.getD j 0)
              · have hnx : ∀ i, i < k + 1 → okP d N x (C.getD i 0) (A.getD j 0) = false := ltSucc hno hpb
                unfold okP at hpb
                generalize N.any (meetB (x.at_ (C.getD k 0) (A.getD j 0))) = M at *
                generalize C.getD k 0 = X at *
                generalize A.getD j 0 = Y at *
                clear hno hn
                unfold pl3 boxZ Sty.at_ at *
                repeat' (first
 | (apply Awp.sreg; (case hn => (simp only [List.length_cons, List.length_nil, Nat.reduceAdd] <;> rfl)))
 | (refine st_nil ?_)
 | (apply st_a; (case hc => rfl); (case he => (simp only [go_sem, *] <;> rfl)); (case hu => (simp only [updL_nil, updL_cons] <;> rfl)); (case hp => first | trivial | omega))
 | (apply st_m; (case hc => rfl); (case hg => (simp only [go_sem, *] <;> rfl)); (case he => (intro hQz; (try simp only [wantB_t, wantB_f, Bool.and_eq_true, Bool.not_eq_true', Bool.not_true, Bool.not_false, and_true, true_and] at hQz); simp only [go_sem, *] <;> rfl)); (case hp => (intro hQz; (try simp only [wantB_t, wantB_f, Bool.and_eq_true, Bool.not_eq_true', Bool.or_eq_false_iff, decide_eq_true_eq, decide_eq_false_iff_not, beq_iff_eq, beq_eq_false_iff_ne, bne_iff_ne, bne_eq_false_iff_eq, Int.not_lt, Int.not_le, Int.ofNat_lt, Int.ofNat_le] at hQz); first | trivial)))
 | (apply st_cd; (case hc => (simp only [go_sem, *] <;> rfl)); (case hl => (simp only [go_sem, *] <;> rfl)); (case hn => (simp only [go_sem, *] <;> rfl)); (case hp => first | exact c0 | (have hXz := c0; simp only [go_sem, *] at hXz; exact hXz)); (case hd => first | exact .v _ | exact .any | exact .nils | (repeat' (first | exact Dry.v _ | exact Dry.any | exact Dry.nils | exact Dry.slE | refine Dry.agg ?_ | refine Dry.tup ?_ | (refine List.forall_mem_cons.2 (And.intro ?_ ?_)) | (intro cQ hQ; cases hQ; done)))); (case hm => first | decide | (simp; done)))
 | (apply Awp.reg; (case hn => (simp only [List.length_cons, List.length_nil, Nat.reduceAdd] <;> rfl)))
 | (refine Awp.skip ?_; try simp only [go_sem, *])
 | refine Awp.block ?_
 | (apply Awp.cond; (case hc => (simp only [go_sem, *] <;> rfl)); all_goals (intro hg; (try simp only [Bool.not_true, Bool.not_false, reduceCtorEq] at hg)))
 | refine Awp.seq ?_)
                refine ⟨(k + 1, (X, Y)), ⟨by dsimp only; omega, hnx⟩, by dsimp only; omega, ?_⟩
                (apply Ghost.mk [] []; (case hdead => rfl); (case hinj => rfl); (case hV => (simp only [go_sem, *]) <;> (repeat' (first | refine And.intro ?_ ?_ | exact View.int (by first | rfl | omega | (simp; done) | (rw [wrap_i64] <;> (try simp only [Int.natCast_add]) <;> omega) | (simp [*]; done)) | exact .bp rfl (by decide) | exact .own rfl (by decide)))); (case hB => (simp only [go_sem, *]) <;> (repeat' (first | refine And.intro ?_ ?_ | exact ⟨_, rfl, BView.boxF rfl⟩ | exact ⟨_, rfl, .rowE (by first | rfl | omega | (simp; done) | (rw [wrap_i64] <;> (try simp only [Int.natCast_add]) <;> omega) | (simp [*]; done))⟩))))
              · have hr := scan_hit (P := okP d N x) hlt hn (find_first (P := fun X => okP d N x X (A.getD j 0)) hkl hpb hno)
                rw [hr]
                simp only [Option.map_some]
                unfold okP at hpb
                clear hr hn hno
                generalize N.any (meetB (x.at_ (C.getD k 0) (A.getD j 0))) = M at *
                generalize C.getD k 0 = X at *
                generalize A.getD j 0 = Y at *
                unfold pl3 boxZ Sty.at_ at *
                repeat' (first
 | (apply Awp.sreg; (case hn => (simp only [List.length_cons, List.length_nil, Nat.reduceAdd] <;> rfl)))
 | (refine st_nil ?_)
 | (apply st_a; (case hc => rfl); (case he => (simp only [go_sem, *] <;> rfl)); (case hu => (simp only [updL_nil, updL_cons] <;> rfl)); (case hp => first | trivial | omega))
 | (apply st_m; (case hc => rfl); (case hg => (simp only [go_sem, *] <;> rfl)); (case he => (intro hQz; (try simp only [wantB_t, wantB_f, Bool.and_eq_true, Bool.not_eq_true', Bool.not_true, Bool.not_false, and_true, true_and] at hQz); simp only [go_sem, *] <;> rfl)); (case hp => (intro hQz; (try simp only [wantB_t, wantB_f, Bool.and_eq_true, Bool.not_eq_true', Bool.or_eq_false_iff, decide_eq_true_eq, decide_eq_false_iff_not, beq_iff_eq, beq_eq_false_iff_ne, bne_iff_ne, bne_eq_false_iff_eq, Int.not_lt, Int.not_le, Int.ofNat_lt, Int.ofNat_le] at hQz); first | trivial)))
 | (apply st_cd; (case hc => (simp only [go_sem, *] <;> rfl)); (case hl => (simp only [go_sem, *] <;> rfl)); (case hn => (simp only [go_sem, *] <;> rfl)); (case hp => first | exact c0 | (have hXz := c0; simp only [go_sem, *] at hXz; exact hXz)); (case hd => first | exact .v _ | exact .any | exact .nils | (repeat' (first | exact Dry.v _ | exact Dry.any | exact Dry.nils | exact Dry.slE | refine Dry.agg ?_ | refine Dry.tup ?_ | (refine List.forall_mem_cons.2 (And.intro ?_ ?_)) | (intro cQ hQ; cases hQ; done)))); (case hm => first | decide | (simp; done)))
 | (refine Awp.ret ?_; try simp only [go_sem, *])
 | (refine Awp.skip ?_; try simp only [go_sem, *])
 | refine Awp.block ?_
 | (apply Awp.cond; (case hc => (simp only [go_sem, *] <;> rfl)); all_goals (intro hg; (try simp only [Bool.not_true, Bool.not_false, reduceCtorEq] at hg)))
 | refine Awp.seq ?_)
                all_goals repeat' (first | exact Lower.bool (by first | rfl | (simp only [plE, Bool.true_and, Bool.false_and, Bool.and_true, Bool.and_false, Bool.true_or, Bool.false_or, reduceIte, Bool.false_eq_true, *]; done) | (simp only [plE, reduceIte, Bool.false_eq_true, *] <;> rfl) | (simp [plE]; done) | (simp_all [plE]; done) | omega) | exact Lower.int (by first | rfl | (simp only [plE, Bool.true_and, Bool.false_and, Bool.and_true, Bool.and_false, Bool.true_or, Bool.false_or, reduceIte, Bool.false_eq_true, *]; done) | (simp only [plE, reduceIte, Bool.false_eq_true, *] <;> rfl) | (simp [plE]; done) | (simp_all [plE]; done) | omega) | exact Lower.str (by first | rfl | (simp only [plE, Bool.true_and, Bool.false_and, Bool.and_true, Bool.and_false, Bool.true_or, Bool.false_or, reduceIte, Bool.false_eq_true, *]; done) | (simp only [plE, reduceIte, Bool.false_eq_true, *] <;> rfl) | (simp [plE]; done) | (simp_all [plE]; done) | omega) | refine Lower.aggF ?_ | refine Lower.tupF ?_ | refine All2.cons ?_ ?_ | exact All2.nil)
            · have hkl' : ¬ (k : Int) < C.length := by omega
              have hne := ltSucc hn (find_no (P := fun X => okP d N x X (A.getD j 0)) fun i hi => hno i (by omega))
              clear hn hno hat
              unfold pl3 boxZ
              repeat' (first
 | (apply Awp.sreg; (case hn => (simp only [List.length_cons, List.length_nil, Nat.reduceAdd] <;> rfl)))
 | (refine st_nil ?_)
 | (apply st_a; (case hc => rfl); (case he => (simp only [go_sem, *] <;> rfl)); (case hu => (simp only [updL_nil, updL_cons] <;> rfl)); (case hp => first | trivial))
 | (apply Awp.reg; (case hn => (simp only [List.length_cons, List.length_nil, Nat.reduceAdd] <;> rfl)))
 | (refine Awp.exit ?_; try simp only [go_sem, *])
 | (apply Awp.cond; (case hc => (simp only [go_sem, *] <;> rfl)); all_goals (intro hg; (try simp only [Bool.not_true, Bool.not_false, reduceCtorEq] at hg)))
 | refine Awp.seq ?_)
              refine ⟨(j + 1, (X1, Y1)), ⟨by dsimp only; omega, hne⟩, by dsimp only; omega, ?_⟩
              unfold Sty.at_
              (apply Ghost.mk [] []; (case hdead => rfl); (case hinj => rfl); (case hV => (simp only [go_sem, *]) <;> (repeat' (first | refine And.intro ?_ ?_ | exact View.int (by first | rfl | omega | (simp; done) | (rw [wrap_i64] <;> (try simp only [Int.natCast_add]) <;> omega) | (simp [*]; done)) | exact .bp rfl (by decide) | exact .own rfl (by decide)))); (case hB => (simp only [go_sem, *]) <;> (repeat' (first | refine And.intro ?_ ?_ | exact ⟨_, rfl, BView.boxF rfl⟩ | exact ⟨_, rfl, .rowE (by first | rfl | omega | (simp; done) | (rw [wrap_i64] <;> (try simp only [Int.natCast_add]) <;> omega) | (simp [*]; done))⟩))))
        · have hlt' : ¬ (j : Int) < A.length := by omega
          have hr := scan_no (P := okP d N x) (Nat.le_of_not_lt hlt) hn
          rw [hr]
          simp only [Option.map_none]
          clear hn hr
          unfold pl2 boxZ
          repeat' (first
 | (apply Awp.sreg; (case hn => (simp only [List.length_cons, List.length_nil, Nat.reduceAdd] <;> rfl)))
 | (refine st_nil ?_)
 | (apply st_a; (case hc => rfl); (case he => (simp only [go_sem, *] <;> rfl)); (case hu => (simp only [updL_nil, updL_cons] <;> rfl)); (case hp => first | trivial))
 | (refine Awp.ret ?_; try simp only [go_sem, *])
 | (refine Awp.exit ?_; try simp only [go_sem, *])
 | (apply Awp.cond; (case hc => (simp only [go_sem, *] <;> rfl)); all_goals (intro hg; (try simp only [Bool.not_true, Bool.not_false, reduceCtorEq] at hg)))
 | refine Awp.seq ?_)
          all_goals repeat' (first | exact Lower.bool (by first | rfl | (simp only [plE, zeroSty, Bool.true_and, Bool.false_and, Bool.and_true, Bool.and_false, Bool.true_or, Bool.false_or, reduceIte, Bool.false_eq_true, *]; done) | (simp only [plE, zeroSty, reduceIte, Bool.false_eq_true, *] <;> rfl) | (simp [plE, zeroSty]; done) | (simp_all [plE, zeroSty]; done) | omega) | exact Lower.int (by first | rfl | (simp only [plE, zeroSty, Bool.true_and, Bool.false_and, Bool.and_true, Bool.and_false, Bool.true_or, Bool.false_or, reduceIte, Bool.false_eq_true, *]; done) | (simp only [plE, zeroSty, reduceIte, Bool.false_eq_true, *] <;> rfl) | (simp [plE, zeroSty]; done) | (simp_all [plE, zeroSty]; done) | omega) | exact Lower.str (by first | rfl | (simp only [plE, zeroSty, Bool.true_and, Bool.false_and, Bool.and_true, Bool.and_false, Bool.true_or, Bool.false_or, reduceIte, Bool.false_eq_true, *]; done) | (simp only [plE, zeroSty, reduceIte, Bool.false_eq_true, *] <;> rfl) | (simp [plE, zeroSty]; done) | (simp_all [plE, zeroSty]; done) | omega) | refine Lower.aggF ?_ | refine Lower.tupF ?_ | refine All2.cons ?_ ?_ | exact All2.nil)
theorem startsZ_len (l : List Sty) (fr : Int) : (startsZ l fr).length ≤ l.length + 1 := by
  unfold startsZ
  refine Nat.le_trans (compact_len _) ?_
  rw [sortI_len]
  exact endsL_len l fr
theorem from_ok (n a b : Int) : Pure Tryz.prog 42 [.v (.int .i64 n), .v (.int .i64 a), .v (.int .i64 b)] (.v (.bool (decide (a ≤ n) && decide (n ≤ b)))) := by
  refine fn_pure Tryz.F42 (Nat.le_of_ble_eq_true rfl) ?_; unfold Tryz.ac42 AR AM AO
  repeat' (first
 | (apply Awp.sreg; (case hn => (simp only [List.length_cons, List.length_nil, Nat.reduceAdd] <;> rfl)))
 | (refine st_nil ?_)
 | (apply st_a; (case hc => rfl); (case he => (simp only [go_sem, *] <;> rfl)); (case hu => (simp only [updL_nil, updL_cons] <;> rfl)); (case hp => first | trivial))
 | (apply st_m; (case hc => rfl); (case hg => (simp only [go_sem, *] <;> rfl)); (case he => (intro hQz; (try simp only [wantB_t, wantB_f, Bool.and_eq_true, Bool.not_eq_true', Bool.not_true, Bool.not_false, and_true, true_and] at hQz); simp only [go_sem, *] <;> rfl)); (case hp => (intro hQz; (try simp only [wantB_t, wantB_f, Bool.and_eq_true, Bool.not_eq_true', Bool.or_eq_false_iff, decide_eq_true_eq, decide_eq_false_iff_not, beq_iff_eq, beq_eq_false_iff_ne, bne_iff_ne, bne_eq_false_iff_eq, Int.not_lt, Int.not_le, Int.ofNat_lt, Int.ofNat_le] at hQz); first | trivial)))
 | (refine Awp.ret ?_; try simp only [go_sem, *]))
  all_goals repeat' (first | exact Lower.bool (by first | rfl | (simp only [true_and, Bool.true_and, Bool.false_and, Bool.and_true, Bool.and_false, Bool.true_or, Bool.false_or, reduceIte, Bool.false_eq_true, *]; done) | (simp only [true_and, reduceIte, Bool.false_eq_true, *] <;> rfl) | (simp [true_and]; done) | (simp_all [true_and]; done) | omega))
theorem hullF_ok (b x : Sty) : Pure Tryz.prog 41 [x.av, .rp b.cells] (.v (.bool (x.item.toList == b.item.toList))) := by
  refine fn_pure Tryz.F41 (Nat.le_of_ble_eq_true rfl) ?_; unfold Tryz.ac41 AR AM AO
  repeat' (first
 | (apply Awp.sreg; (case hn => (simp only [List.length_cons, List.length_nil, Nat.reduceAdd] <;> rfl)))
 | (refine st_nil ?_)
 | (apply st_a; (case hc => rfl); (case he => (simp only [go_sem, *] <;> rfl)); (case hu => (simp only [updL_nil, updL_cons] <;> rfl)); (case hp => first | trivial))
 | (refine Awp.ret ?_; try simp only [go_sem, *]))
  all_goals repeat' (first | exact Lower.bool (by first | rfl | (simp only [true_and, Bool.true_and, Bool.false_and, Bool.and_true, Bool.and_false, Bool.true_or, Bool.false_or, reduceIte, Bool.false_eq_true, *]; done) | (simp only [true_and, reduceIte, Bool.false_eq_true, *] <;> rfl) | (simp [true_and]; done) | (simp_all [true_and]; done) | omega))
def askd (x : Sty) (nm : ByteArray) (t e : Int) : Sty := ⟨x.item, nm, 0, 0, x.len, x.wid, t, e⟩
def hullB (nm : ByteArray) (q : Sty) : Bool := q.item.toList == nm.toList
def fitB (x : Sty) (h : Int) : Bool := !(decide (1 ≤ x.len) && decide (x.len ≤ 524288)) || !(decide (1 ≤ x.wid) && decide (x.wid ≤ 524288)) || !(decide (1 ≤ h) && decide (h ≤ 1048576)) || !(decide (0 ≤ x.a) && decide (x.a ≤ 1048576))
/-- What Fit returns, by what its search finds. -/
def fitH (bs : List By) (l : List Sty) (x : Sty) (h : Int) (o : Option Sty) : Sty × Int :=
  if dockE bs l != 0 then (zeroSty, dockE bs l) else if !idB x.item then (zeroSty, 6) else if l.any (hullB x.item) then (zeroSty, 7) else if fitB x h then (zeroSty, 9) else if decide ((128 : Int) ≤ l.length) then (zeroSty, 12) else
  match o with
  | some y => (y, 0)
  | none => (zeroSty, 18)
def tryP (l : List Sty) (x : Sty) (t : Int) (d : By) (e : Int) : Option Sty := if decide ((1048576 : Int) < e) then none else placeD d l (askd x d.nm t e)
def tryD (l : List Sty) (x : Sty) (h t : Int) (d : By) : Option Sty := (startsZ l (IntKind.i64.wrap (t + h))).findSome? (tryP l x t d)
def fitP (bs : List By) (l : List Sty) (x : Sty) (h : Int) : Option Sty := (startsZ l x.a).findSome? fun t => bs.findSome? (tryD l x h t)
def fp1 (bs : List By) (l : List Sty) (x : Sty) (h : Int) (S : List Int) (i : Nat) : AState :=
  mkS [(0, .sl (bys bs)), (1, .sl (stys l)), (3, .v (.int .i64 h)), (6, .bp 0 0), (8, .bp 1 0), (71, .own 2), (72, .v (.int .i64 S.length)), (73, .v (.int .i64 i))] [(0, .box x.cells), (1, .box boxZ), (2, .row (ints S) 1 3)]
def fp2 (bs : List By) (l : List Sty) (x : Sty) (h : Int) (S : List Int) (i : Nat) (t : Int) (k : Nat) : AState :=
  mkS [(0, .sl (bys bs)), (1, .sl (stys l)), (3, .v (.int .i64 h)), (6, .bp 0 0), (8, .bp 1 0), (12, .v (.int .i64 t)), (71, .own 2), (72, .v (.int .i64 S.length)), (73, .v (.int .i64 i)), (77, .sl (bys bs)), (78, .v (.int .i64 bs.length)), (79, .v (.int .i64 k))] [(0, .box x.cells), (1, .box boxZ), (2, .row (ints S) 1 3)]
def fp3 (bs : List By) (l : List Sty) (x : Sty) (h : Int) (S : List Int) (i : Nat) (t : Int) (k : Nat) (d : By) (E : List Int) (m : Nat) : AState :=
  mkS [(0, .sl (bys bs)), (1, .sl (stys l)), (3, .v (.int .i64 h)), (6, .bp 0 0), (8, .bp 1 0), (12, .v (.int .i64 t)), (14, .bp 3 0), (71, .own 2), (72, .v (.int .i64 S.length)), (73, .v (.int .i64 i)), (77, .sl (bys bs)), (78, .v (.int .i64 bs.length)), (79, .v (.int .i64 k)), (87, .own 4), (88, .v (.int .i64 E.length)), (89, .v (.int .i64 m))]
    [(0, .box x.cells), (1, .box boxZ), (2, .row (ints S) 1 3), (3, .box d.cells), (4, .row (ints E) 1 3)]
theorem fit_ok (bs : List By) (l : List Sty) (x : Sty) (h : Int) (hb : bs.length < 90000) (hl : l.length < 80000) : Pure Tryz.prog 20 [.sl (bys bs), .sl (stys l), x.av, .v (.int .i64 h)] (.tup [(fitH bs l x h (fitP bs l x h)).1.av, .v (.int .i64 (fitH bs l x h (fitP bs l x h)).2)]) := by
  have c0 := dcheck_ok bs l (by omega) (by omega)
  have c1 := isid_ok x.item
  have c2 : Pure Tryz.prog 28 [.sl (stys l), .fn 41 [.rp x.cells]] (.v (.bool (l.any (hullB x.item)))) := containsK_ok l 41 x.cells (hullB x.item) (by omega) (hullF_ok x)
  unfold fitH
  by_cases hC : dockE bs l = 0
  case neg =>
    have hC' : (dockE bs l != 0) = true := by simpa using hC
    rw [if_pos hC']
    generalize dockE bs l = e at *
    refine fn_pure Tryz.F20 (Nat.le_of_ble_eq_true rfl) ?_; unfold Tryz.ac20 AR AM AO
    repeat' (first
 | (apply Awp.sreg; (case hn => (simp only [List.length_cons, List.length_nil, Nat.reduceAdd] <;> rfl)))
 | (refine st_nil ?_)
 | (apply st_a; (case hc => rfl); (case he => (simp only [go_sem, *] <;> rfl)); (case hu => (simp only [updL_nil, updL_cons] <;> rfl)); (case hp => first | trivial))
 | (apply st_c; (case hc => (simp only [go_sem, *] <;> rfl)); (case hl => (simp only [go_sem, *] <;> rfl)); (case hn => (simp only [go_sem, *] <;> rfl)); (case hp => first | exact c0 | (have hXz := c0; simp only [go_sem, *] at hXz; exact hXz)))
 | (refine Awp.ret ?_; try simp only [go_sem, *])
 | (apply Awp.cond; (case hc => (simp only [go_sem, *] <;> rfl)); all_goals (intro hg; (try simp only [Bool.not_true, Bool.not_false, reduceCtorEq] at hg)))
 | refine Awp.seq ?_)
    all_goals repeat' (first | exact Lower.int (by first | rfl | (simp only [zeroSty, Bool.true_and, Bool.false_and, Bool.and_true, Bool.and_false, Bool.true_or, Bool.false_or, reduceIte, Bool.false_eq_true, *]; done) | (simp only [zeroSty, reduceIte, Bool.false_eq_true, *] <;> rfl) | (simp [zeroSty]; done) | (simp_all [zeroSty]; done) | omega) | exact Lower.str (by first | rfl | (simp only [zeroSty, Bool.true_and, Bool.false_and, Bool.and_true, Bool.and_false, Bool.true_or, Bool.false_or, reduceIte, Bool.false_eq_true, *]; done) | (simp only [zeroSty, reduceIte, Bool.false_eq_true, *] <;> rfl) | (simp [zeroSty]; done) | (simp_all [zeroSty]; done) | omega) | refine Lower.aggF ?_ | refine Lower.tupF ?_ | refine All2.cons ?_ ?_ | exact All2.nil)
  rw [if_neg (by rw [hC]; simp)]
  rw [hC] at c0
  cases h1 : idB x.item
  · rw [if_pos (by simp)]
    refine fn_pure Tryz.F20 (Nat.le_of_ble_eq_true rfl) ?_; unfold Tryz.ac20 AR AM AO
    repeat' (first
 | (apply Awp.sreg; (case hn => (simp only [List.length_cons, List.length_nil, Nat.reduceAdd] <;> rfl)))
 | (refine st_nil ?_)
 | (apply st_a; (case hc => rfl); (case he => (simp only [go_sem, *] <;> rfl)); (case hu => (simp only [updL_nil, updL_cons] <;> rfl)); (case hp => first | trivial))
 | (apply st_c; (case hc => (simp only [go_sem, *] <;> rfl)); (case hl => (simp only [go_sem, *] <;> rfl)); (case hn => (simp only [go_sem, *] <;> rfl)); (case hp => first | exact c0 | (have hXz := c0; simp only [go_sem, *] at hXz; exact hXz)))
 | (apply st_c; (case hc => (simp only [go_sem, *] <;> rfl)); (case hl => (simp only [go_sem, *] <;> rfl)); (case hn => (simp only [go_sem, *] <;> rfl)); (case hp => first | exact c1 | (have hXz := c1; simp only [go_sem, *] at hXz; exact hXz)))
 | (refine Awp.ret ?_; try simp only [go_sem, *])
 | (refine Awp.skip ?_; try simp only [go_sem, *])
 | refine Awp.block ?_
 | (apply Awp.cond; (case hc => (simp only [go_sem, *] <;> rfl)); all_goals (intro hg; (try simp only [Bool.not_true, Bool.not_false, reduceCtorEq] at hg)))
 | refine Awp.seq ?_)
    all_goals repeat' (first | exact Lower.int (by first | rfl | (simp only [zeroSty, Bool.true_and, Bool.false_and, Bool.and_true, Bool.and_false, Bool.true_or, Bool.false_or, reduceIte, Bool.false_eq_true, *]; done) | (simp only [zeroSty, reduceIte, Bool.false_eq_true, *] <;> rfl) | (simp [zeroSty]; done) | (simp_all [zeroSty]; done) | omega) | exact Lower.str (by first | rfl | (simp only [zeroSty, Bool.true_and, Bool.false_and, Bool.and_true, Bool.and_false, Bool.true_or, Bool.false_or, reduceIte, Bool.false_eq_true, *]; done) | (simp only [zeroSty, reduceIte, Bool.false_eq_true, *] <;> rfl) | (simp [zeroSty]; done) | (simp_all [zeroSty]; done) | omega) | refine Lower.aggF ?_ | refine Lower.tupF ?_ | refine All2.cons ?_ ?_ | exact All2.nil)
  rw [if_neg (by simp)]
  rw [h1] at c1
  cases h3 : l.any (hullB x.item)
  case true =>
    rw [if_pos rfl]
    rw [h3] at c2
    refine fn_pure Tryz.F20 (Nat.le_of_ble_eq_true rfl) ?_; unfold Tryz.ac20 AR AM AO
    repeat' (first
 | (apply Awp.sreg; (case hn => (simp only [List.length_cons, List.length_nil, Nat.reduceAdd] <;> rfl)))
 | (refine st_nil ?_)
 | (apply st_a; (case hc => rfl); (case he => (simp only [go_sem, *] <;> rfl)); (case hu => (simp only [updL_nil, updL_cons] <;> rfl)); (case hp => first | trivial))
 | (apply st_c; (case hc => (simp only [go_sem, *] <;> rfl)); (case hl => (simp only [go_sem, *] <;> rfl)); (case hn => (simp only [go_sem, *] <;> rfl)); (case hp => first | exact c0 | (have hXz := c0; simp only [go_sem, *] at hXz; exact hXz)))
 | (apply st_c; (case hc => (simp only [go_sem, *] <;> rfl)); (case hl => (simp only [go_sem, *] <;> rfl)); (case hn => (simp only [go_sem, *] <;> rfl)); (case hp => first | exact c1 | (have hXz := c1; simp only [go_sem, *] at hXz; exact hXz)))
 | (apply st_cd; (case hc => (simp only [go_sem, *] <;> rfl)); (case hl => (simp only [go_sem, *] <;> rfl)); (case hn => (simp only [go_sem, *] <;> rfl)); (case hp => first | exact c2 | (have hXz := c2; simp only [go_sem, *] at hXz; exact hXz)); (case hd => first | exact .v _ | exact .any | exact .nils | (repeat' (first | exact Dry.v _ | exact Dry.any | exact Dry.nils | exact Dry.slE | refine Dry.agg ?_ | refine Dry.tup ?_ | (refine List.forall_mem_cons.2 (And.intro ?_ ?_)) | (intro cQ hQ; cases hQ; done)))); (case hm => first | decide | (simp; done)))
 | (refine Awp.ret ?_; try simp only [go_sem, *])
 | (refine Awp.skip ?_; try simp only [go_sem, *])
 | refine Awp.block ?_
 | (apply Awp.cond; (case hc => (simp only [go_sem, *] <;> rfl)); all_goals (intro hg; (try simp only [Bool.not_true, Bool.not_false, reduceCtorEq] at hg)))
 | refine Awp.seq ?_)
    all_goals repeat' (first | exact Lower.int (by first | rfl | (simp only [zeroSty, Bool.true_and, Bool.false_and, Bool.and_true, Bool.and_false, Bool.true_or, Bool.false_or, reduceIte, Bool.false_eq_true, *]; done) | (simp only [zeroSty, reduceIte, Bool.false_eq_true, *] <;> rfl) | (simp [zeroSty]; done) | (simp_all [zeroSty]; done) | omega) | exact Lower.str (by first | rfl | (simp only [zeroSty, Bool.true_and, Bool.false_and, Bool.and_true, Bool.and_false, Bool.true_or, Bool.false_or, reduceIte, Bool.false_eq_true, *]; done) | (simp only [zeroSty, reduceIte, Bool.false_eq_true, *] <;> rfl) | (simp [zeroSty]; done) | (simp_all [zeroSty]; done) | omega) | refine Lower.aggF ?_ | refine Lower.tupF ?_ | refine All2.cons ?_ ?_ | exact All2.nil)
  rw [if_neg (by simp)]
  rw [h3] at c2
  cases h2 : fitB x h
  case true =>
    rw [if_pos rfl]
    have hR := h2
    unfold fitB at hR
    clear h2
    refine fn_pure Tryz.F20 (Nat.le_of_ble_eq_true rfl) ?_; unfold Tryz.ac20 AR AM AO
    repeat' (first
 | (apply Awp.sreg; (case hn => (simp only [List.length_cons, List.length_nil, Nat.reduceAdd] <;> rfl)))
 | (refine st_nil ?_)
 | (apply st_a; (case hc => rfl); (case he => (simp only [go_sem, *] <;> rfl)); (case hu => (simp only [updL_nil, updL_cons] <;> rfl)); (case hp => first | trivial))
 | (apply st_m; (case hc => rfl); (case hg => (simp only [go_sem, *] <;> rfl)); (case he => (intro hQz; (try simp only [wantB_t, wantB_f, Bool.and_eq_true, Bool.not_eq_true', Bool.not_true, Bool.not_false, and_true, true_and] at hQz); simp only [go_sem, *] <;> rfl)); (case hp => (intro hQz; (try simp only [wantB_t, wantB_f, Bool.and_eq_true, Bool.not_eq_true', Bool.or_eq_false_iff, decide_eq_true_eq, decide_eq_false_iff_not, beq_iff_eq, beq_eq_false_iff_ne, bne_iff_ne, bne_eq_false_iff_eq, Int.not_lt, Int.not_le, Int.ofNat_lt, Int.ofNat_le] at hQz); first | trivial)))
 | (apply st_c; (case hc => (simp only [go_sem, *] <;> rfl)); (case hl => (simp only [go_sem, *] <;> rfl)); (case hn => (simp only [go_sem, *] <;> rfl)); (case hp => first | exact c0 | (have hXz := c0; simp only [go_sem, *] at hXz; exact hXz)))
 | (apply st_c; (case hc => (simp only [go_sem, *] <;> rfl)); (case hl => (simp only [go_sem, *] <;> rfl)); (case hn => (simp only [go_sem, *] <;> rfl)); (case hp => first | exact c1 | (have hXz := c1; simp only [go_sem, *] at hXz; exact hXz)))
 | (apply st_cd; (case hc => (simp only [go_sem, *] <;> rfl)); (case hl => (simp only [go_sem, *] <;> rfl)); (case hn => (simp only [go_sem, *] <;> rfl)); (case hp => first | exact c2 | (have hXz := c2; simp only [go_sem, *] at hXz; exact hXz)); (case hd => first | exact .v _ | exact .any | exact .nils | (repeat' (first | exact Dry.v _ | exact Dry.any | exact Dry.nils | exact Dry.slE | refine Dry.agg ?_ | refine Dry.tup ?_ | (refine List.forall_mem_cons.2 (And.intro ?_ ?_)) | (intro cQ hQ; cases hQ; done)))); (case hm => first | decide | (simp; done)))
 | (apply st_mc; (case hop => rfl); (case hg => (simp only [go_sem, *] <;> rfl)); (case hc => (intro hQz; (try simp only [wantB_t, wantB_f, Bool.and_eq_true, Bool.not_eq_true', Bool.not_true, Bool.not_false, and_true, true_and] at hQz); simp only [go_sem, *] <;> rfl)); (case hl => (intro hQz; (try simp only [wantB_t, wantB_f, Bool.and_eq_true, Bool.not_eq_true', Bool.not_true, Bool.not_false, and_true, true_and] at hQz); simp only [go_sem, *] <;> rfl)); (case hn => (intro hQz; (try simp only [wantB_t, wantB_f, Bool.and_eq_true, Bool.not_eq_true', Bool.not_true, Bool.not_false, and_true, true_and] at hQz); simp only [go_sem, *] <;> rfl)); (case hp => intro hQz; first | exact from_ok _ _ _ | (have hXz := from_ok _ _ _; simp only [go_sem, *] at hXz; exact hXz)))
 | (apply st_c; (case hc => (simp only [go_sem, *] <;> rfl)); (case hl => (simp only [go_sem, *] <;> rfl)); (case hn => (simp only [go_sem, *] <;> rfl)); (case hp => first | exact from_ok _ _ _ | (have hXz := from_ok _ _ _; simp only [go_sem, *] at hXz; exact hXz)))
 | (refine Awp.ret ?_; try simp only [go_sem, *])
 | (refine Awp.skip ?_; try simp only [go_sem, *])
 | refine Awp.block ?_
 | (apply Awp.cond; (case hc => (simp only [go_sem, *] <;> rfl)); all_goals (intro hg; (try simp only [Bool.not_true, Bool.not_false, reduceCtorEq] at hg)))
 | refine Awp.seq ?_)
    all_goals repeat' (first | exact Lower.int (by first | rfl | (simp only [zeroSty, Bool.true_and, Bool.false_and, Bool.and_true, Bool.and_false, Bool.true_or, Bool.false_or, reduceIte, Bool.false_eq_true, *]; done) | (simp only [zeroSty, reduceIte, Bool.false_eq_true, *] <;> rfl) | (simp [zeroSty]; done) | (simp_all [zeroSty]; done) | omega) | exact Lower.str (by first | rfl | (simp only [zeroSty, Bool.true_and, Bool.false_and, Bool.and_true, Bool.and_false, Bool.true_or, Bool.false_or, reduceIte, Bool.false_eq_true, *]; done) | (simp only [zeroSty, reduceIte, Bool.false_eq_true, *] <;> rfl) | (simp [zeroSty]; done) | (simp_all [zeroSty]; done) | omega) | refine Lower.aggF ?_ | refine Lower.tupF ?_ | refine All2.cons ?_ ?_ | exact All2.nil)
  rw [if_neg (by simp)]
  have hR := h2
  unfold fitB at hR
  clear h2
  by_cases h4 : (128 : Int) ≤ l.length
  · rw [if_pos (by simpa using h4)]
    refine fn_pure Tryz.F20 (Nat.le_of_ble_eq_true rfl) ?_; unfold Tryz.ac20 AR AM AO
    repeat' (first
 | (apply Awp.sreg; (case hn => (simp only [List.length_cons, List.length_nil, Nat.reduceAdd] <;> rfl)))
 | (refine st_nil ?_)
 | (apply st_a; (case hc => rfl); (case he => (simp only [go_sem, *] <;> rfl)); (case hu => (simp only [updL_nil, updL_cons] <;> rfl)); (case hp => first | trivial))
 | (apply st_m; (case hc => rfl); (case hg => (simp only [go_sem, *] <;> rfl)); (case he => (intro hQz; (try simp only [wantB_t, wantB_f, Bool.and_eq_true, Bool.not_eq_true', Bool.not_true, Bool.not_false, and_true, true_and] at hQz); simp only [go_sem, *] <;> rfl)); (case hp => (intro hQz; (try simp only [wantB_t, wantB_f, Bool.and_eq_true, Bool.not_eq_true', Bool.or_eq_false_iff, decide_eq_true_eq, decide_eq_false_iff_not, beq_iff_eq, beq_eq_false_iff_ne, bne_iff_ne, bne_eq_false_iff_eq, Int.not_lt, Int.not_le, Int.ofNat_lt, Int.ofNat_le] at hQz); first | trivial)))
 | (apply st_c; (case hc => (simp only [go_sem, *] <;> rfl)); (case hl => (simp only [go_sem, *] <;> rfl)); (case hn => (simp only [go_sem, *] <;> rfl)); (case hp => first | exact c0 | (have hXz := c0; simp only [go_sem, *] at hXz; exact hXz)))
 | (apply st_c; (case hc => (simp only [go_sem, *] <;> rfl)); (case hl => (simp only [go_sem, *] <;> rfl)); (case hn => (simp only [go_sem, *] <;> rfl)); (case hp => first | exact c1 | (have hXz := c1; simp only [go_sem, *] at hXz; exact hXz)))
 | (apply st_cd; (case hc => (simp only [go_sem, *] <;> rfl)); (case hl => (simp only [go_sem, *] <;> rfl)); (case hn => (simp only [go_sem, *] <;> rfl)); (case hp => first | exact c2 | (have hXz := c2; simp only [go_sem, *] at hXz; exact hXz)); (case hd => first | exact .v _ | exact .any | exact .nils | (repeat' (first | exact Dry.v _ | exact Dry.any | exact Dry.nils | exact Dry.slE | refine Dry.agg ?_ | refine Dry.tup ?_ | (refine List.forall_mem_cons.2 (And.intro ?_ ?_)) | (intro cQ hQ; cases hQ; done)))); (case hm => first | decide | (simp; done)))
 | (apply st_mc; (case hop => rfl); (case hg => (simp only [go_sem, *] <;> rfl)); (case hc => (intro hQz; (try simp only [wantB_t, wantB_f, Bool.and_eq_true, Bool.not_eq_true', Bool.not_true, Bool.not_false, and_true, true_and] at hQz); simp only [go_sem, *] <;> rfl)); (case hl => (intro hQz; (try simp only [wantB_t, wantB_f, Bool.and_eq_true, Bool.not_eq_true', Bool.not_true, Bool.not_false, and_true, true_and] at hQz); simp only [go_sem, *] <;> rfl)); (case hn => (intro hQz; (try simp only [wantB_t, wantB_f, Bool.and_eq_true, Bool.not_eq_true', Bool.not_true, Bool.not_false, and_true, true_and] at hQz); simp only [go_sem, *] <;> rfl)); (case hp => intro hQz; first | exact from_ok _ _ _ | (have hXz := from_ok _ _ _; simp only [go_sem, *] at hXz; exact hXz)))
 | (apply st_c; (case hc => (simp only [go_sem, *] <;> rfl)); (case hl => (simp only [go_sem, *] <;> rfl)); (case hn => (simp only [go_sem, *] <;> rfl)); (case hp => first | exact from_ok _ _ _ | (have hXz := from_ok _ _ _; simp only [go_sem, *] at hXz; exact hXz)))
 | (refine Awp.ret ?_; try simp only [go_sem, *])
 | (refine Awp.skip ?_; try simp only [go_sem, *])
 | refine Awp.block ?_
 | (apply Awp.cond; (case hc => (simp only [go_sem, *] <;> rfl)); all_goals (intro hg; (try simp only [Bool.not_true, Bool.not_false, reduceCtorEq] at hg)))
 | refine Awp.seq ?_)
    all_goals repeat' (first | exact Lower.int (by first | rfl | (simp only [zeroSty, Bool.true_and, Bool.false_and, Bool.and_true, Bool.and_false, Bool.true_or, Bool.false_or, reduceIte, Bool.false_eq_true, *]; done) | (simp only [zeroSty, reduceIte, Bool.false_eq_true, *] <;> rfl) | (simp [zeroSty]; done) | (simp_all [zeroSty]; done) | omega) | exact Lower.str (by first | rfl | (simp only [zeroSty, Bool.true_and, Bool.false_and, Bool.and_true, Bool.and_false, Bool.true_or, Bool.false_or, reduceIte, Bool.false_eq_true, *]; done) | (simp only [zeroSty, reduceIte, Bool.false_eq_true, *] <;> rfl) | (simp [zeroSty]; done) | (simp_all [zeroSty]; done) | omega) | refine Lower.aggF ?_ | refine Lower.tupF ?_ | refine All2.cons ?_ ?_ | exact All2.nil)
  rw [if_neg (by simpa using h4)]
  have c4 := starts_ok l x.a (by omega)
  have hSl := startsZ_len l x.a
  unfold fitP
  refine fn_pure Tryz.F20 (Nat.le_of_ble_eq_true rfl) ?_; unfold Tryz.ac20 AR AM AO
  repeat' (first
 | (apply Awp.sreg; (case hn => (simp only [List.length_cons, List.length_nil, Nat.reduceAdd] <;> rfl)))
 | (refine st_nil ?_)
 | (apply st_a; (case hc => rfl); (case he => (simp only [go_sem, *] <;> rfl)); (case hu => (simp only [updL_nil, updL_cons] <;> rfl)); (case hp => first | trivial))
 | (apply st_m; (case hc => rfl); (case hg => (simp only [go_sem, *] <;> rfl)); (case he => (intro hQz; (try simp only [wantB_t, wantB_f, Bool.and_eq_true, Bool.not_eq_true', Bool.not_true, Bool.not_false, and_true, true_and] at hQz); simp only [go_sem, *] <;> rfl)); (case hp => (intro hQz; (try simp only [wantB_t, wantB_f, Bool.and_eq_true, Bool.not_eq_true', Bool.or_eq_false_iff, decide_eq_true_eq, decide_eq_false_iff_not, beq_iff_eq, beq_eq_false_iff_ne, bne_iff_ne, bne_eq_false_iff_eq, Int.not_lt, Int.not_le, Int.ofNat_lt, Int.ofNat_le] at hQz); first | trivial)))
 | (apply st_c; (case hc => (simp only [go_sem, *] <;> rfl)); (case hl => (simp only [go_sem, *] <;> rfl)); (case hn => (simp only [go_sem, *] <;> rfl)); (case hp => first | exact c0 | (have hXz := c0; simp only [go_sem, *] at hXz; exact hXz)))
 | (apply st_c; (case hc => (simp only [go_sem, *] <;> rfl)); (case hl => (simp only [go_sem, *] <;> rfl)); (case hn => (simp only [go_sem, *] <;> rfl)); (case hp => first | exact c1 | (have hXz := c1; simp only [go_sem, *] at hXz; exact hXz)))
 | (apply st_cd; (case hc => (simp only [go_sem, *] <;> rfl)); (case hl => (simp only [go_sem, *] <;> rfl)); (case hn => (simp only [go_sem, *] <;> rfl)); (case hp => first | exact c2 | (have hXz := c2; simp only [go_sem, *] at hXz; exact hXz)); (case hd => first | exact .v _ | exact .any | exact .nils | (repeat' (first | exact Dry.v _ | exact Dry.any | exact Dry.nils | exact Dry.slE | refine Dry.agg ?_ | refine Dry.tup ?_ | (refine List.forall_mem_cons.2 (And.intro ?_ ?_)) | (intro cQ hQ; cases hQ; done)))); (case hm => first | decide | (simp; done)))
 | (apply st_mc; (case hop => rfl); (case hg => (simp only [go_sem, *] <;> rfl)); (case hc => (intro hQz; (try simp only [wantB_t, wantB_f, Bool.and_eq_true, Bool.not_eq_true', Bool.not_true, Bool.not_false, and_true, true_and] at hQz); simp only [go_sem, *] <;> rfl)); (case hl => (intro hQz; (try simp only [wantB_t, wantB_f, Bool.and_eq_true, Bool.not_eq_true', Bool.not_true, Bool.not_false, and_true, true_and] at hQz); simp only [go_sem, *] <;> rfl)); (case hn => (intro hQz; (try simp only [wantB_t, wantB_f, Bool.and_eq_true, Bool.not_eq_true', Bool.not_true, Bool.not_false, and_true, true_and] at hQz); simp only [go_sem, *] <;> rfl)); (case hp => intro hQz; first | exact from_ok _ _ _ | (have hXz := from_ok _ _ _; simp only [go_sem, *] at hXz; exact hXz)))
 | (apply st_c; (case hc => (simp only [go_sem, *] <;> rfl)); (case hl => (simp only [go_sem, *] <;> rfl)); (case hn => (simp only [go_sem, *] <;> rfl)); (case hp => first | exact from_ok _ _ _ | (have hXz := from_ok _ _ _; simp only [go_sem, *] at hXz; exact hXz)))
 | (apply st_co; (case hc => (simp only [go_sem, *] <;> rfl)); (case hl => (simp only [go_sem, *] <;> rfl)); (case hn => (simp only [go_sem, *] <;> rfl)); (case hp => first | exact c4 | (have hXz := c4; simp only [go_sem, *] at hXz; exact hXz)))
 | (refine Awp.skip ?_; try simp only [go_sem, *])
 | refine Awp.block ?_
 | (apply Awp.cond; (case hc => (simp only [go_sem, *] <;> rfl)); all_goals (intro hg; (try simp only [Bool.not_true, Bool.not_false, reduceCtorEq] at hg)))
 | refine Awp.seq ?_)
  clear c0 c1 c2 c4 h1 h3 hR hC
  obtain ⟨S, hS⟩ : ∃ S, startsZ l x.a = S := ⟨_, rfl⟩
  rw [hS] at hSl ⊢
  refine Awp.loop (fun j : Nat => j ≤ S.length ∧ ∀ i, i < j → bs.findSome? (tryD l x h (S.getD i 0)) = none) 100
    (fun j => fp1 bs l x h S j) (fun j => S.length - j) 0 ⟨Nat.zero_le _, fun j hj => by simp at hj⟩ ?_ ?_
  · unfold fp1 boxZ
    (apply Ghost.mk [(2, 49)] []; (case hdead => rfl); (case hinj => rfl); (case hV => (simp only [go_sem, *]) <;> (repeat' (first | refine And.intro ?_ ?_ | exact View.int (by first | rfl | omega | (simp; done) | (rw [wrap_i64] <;> (try simp only [Int.natCast_add]) <;> omega) | (simp [*]; done)) | exact .bp rfl (by decide) | exact .own rfl (by decide)))); (case hB => (simp only [go_sem, *]) <;> (repeat' (first | refine And.intro ?_ ?_ | exact ⟨_, rfl, BView.boxF rfl⟩ | exact ⟨_, rfl, .rowE (by first | rfl | omega | (simp; done) | (rw [wrap_i64] <;> (try simp only [Int.natCast_add]) <;> omega) | (simp [*]; done))⟩))))
  · intro j ⟨hj, hno⟩
    by_cases hlt : j < S.length
    · have hlt' : (j : Int) < S.length := by omega
      have hat := ints_at S j hlt
      obtain ⟨t, ht⟩ : ∃ t, S.getD j 0 = t := ⟨_, rfl⟩
      rw [ht] at hat
      clear hS
      unfold fp1 boxZ
      repeat' (first
 | (apply Awp.sreg; (case hn => (simp only [List.length_cons, List.length_nil, Nat.reduceAdd] <;> rfl)))
 | (refine st_nil ?_)
 | (apply st_a; (case hc => rfl); (case he => (simp only [go_sem, *] <;> rfl)); (case hu => (simp only [updL_nil, updL_cons] <;> rfl)); (case hp => first | trivial | omega))
 | (refine Awp.skip ?_; try simp only [go_sem, *])
 | refine Awp.block ?_
 | (apply Awp.cond; (case hc => (simp only [go_sem, *] <;> rfl)); all_goals (intro hg; (try simp only [Bool.not_true, Bool.not_false, reduceCtorEq] at hg)))
 | refine Awp.seq ?_)
      refine Awp.loop (fun k : Nat => k ≤ bs.length ∧ ∀ i, i < k → tryD l x h t (bs.getD i zeroBy) = none) 200
        (fun k => fp2 bs l x h S j t k) (fun k => bs.length - k) 0 ⟨Nat.zero_le _, fun j hj => by simp at hj⟩ ?_ ?_
      · unfold fp2 boxZ
        (apply Ghost.mk [] []; (case hdead => rfl); (case hinj => rfl); (case hV => (simp only [go_sem, *]) <;> (repeat' (first | refine And.intro ?_ ?_ | exact View.int (by first | rfl | omega | (simp; done) | (rw [wrap_i64] <;> (try simp only [Int.natCast_add]) <;> omega) | (simp [*]; done)) | exact .bp rfl (by decide) | exact .own rfl (by decide)))); (case hB => (simp only [go_sem, *]) <;> (repeat' (first | refine And.intro ?_ ?_ | exact ⟨_, rfl, BView.boxF rfl⟩ | exact ⟨_, rfl, .rowE (by first | rfl | omega | (simp; done) | (rw [wrap_i64] <;> (try simp only [Int.natCast_add]) <;> omega) | (simp [*]; done))⟩))))
      · intro k ⟨hk, hnk⟩
        by_cases hlk : k < bs.length
        · have hlk' : (k : Int) < bs.length := by omega
          have hatk := bys_at bs k hlk
          have hz : ((bs.getD k zeroBy).cells).length = 3 := rfl
          obtain ⟨d, hd⟩ : ∃ d, bs.getD k zeroBy = d := ⟨_, rfl⟩
          rw [hd] at hatk hz
          have c5 := starts_ok l (IntKind.i64.wrap (t + h)) (by omega)
          have hEl := startsZ_len l (IntKind.i64.wrap (t + h))
          have hD : tryD l x h t d = (startsZ l (IntKind.i64.wrap (t + h))).findSome? (tryP l x t d) := rfl
          have hnx : tryD l x h t d = none → ∀ i, i < k + 1 → tryD l x h t (bs.getD i zeroBy) = none := fun hp => ltSucc hnk (by rw [hd]; exact hp)
          have hyes : ∀ {y : Sty}, tryD l x h t d = some y → S.findSome? (fun t => bs.findSome? (tryD l x h t)) = some y := fun {y} hp => by
            refine fs_hit (d := 0) hlt hno ?_
            rw [ht]
            exact fs_hit hlk hnk (by rw [hd]; exact hp)
          unfold fp2 boxZ
          repeat' (first
 | (apply Awp.sreg; (case hn => (simp only [List.length_cons, List.length_nil, Nat.reduceAdd] <;> rfl)))
 | (refine st_nil ?_)
 | (apply st_a; (case hc => rfl); (case he => (simp only [go_sem, *] <;> rfl)); (case hu => (simp only [updL_nil, updL_cons] <;> rfl)); (case hp => first | trivial | omega))
 | (apply st_co; (case hc => (simp only [go_sem, *] <;> rfl)); (case hl => (simp only [go_sem, *] <;> rfl)); (case hn => (simp only [go_sem, *] <;> rfl)); (case hp => first | exact c5 | (have hXz := c5; simp only [go_sem, *] at hXz; exact hXz)))
 | (refine Awp.skip ?_; try simp only [go_sem, *])
 | refine Awp.block ?_
 | (apply Awp.cond; (case hc => (simp only [go_sem, *] <;> rfl)); all_goals (intro hg; (try simp only [Bool.not_true, Bool.not_false, reduceCtorEq] at hg)))
 | refine Awp.seq ?_)
          obtain ⟨E, hE⟩ : ∃ E, startsZ l (IntKind.i64.wrap (t + h)) = E := ⟨_, rfl⟩
          rw [hE] at hD hEl ⊢
          clear c5 hE
          refine Awp.loop (fun m : Nat => m ≤ E.length ∧ ∀ i, i < m → tryP l x t d (E.getD i 0) = none) 300
            (fun m => fp3 bs l x h S j t k d E m) (fun m => E.length - m) 0 ⟨Nat.zero_le _, fun j hj => by simp at hj⟩ ?_ ?_
          · unfold fp3 boxZ
            (apply Ghost.mk [(3, 203), (4, 209)] []; (case hdead => rfl); (case hinj => rfl); (case hV => (simp only [go_sem, *]) <;> (repeat' (first | refine And.intro ?_ ?_ | exact View.int (by first | rfl | omega | (simp; done) | (rw [wrap_i64] <;> (try simp only [Int.natCast_add]) <;> omega) | (simp [*]; done)) | exact .bp rfl (by decide) | exact .own rfl (by decide)))); (case hB => (simp only [go_sem, *]) <;> (repeat' (first | refine And.intro ?_ ?_ | exact ⟨_, rfl, BView.boxF rfl⟩ | exact ⟨_, rfl, .rowE (by first | rfl | omega | (simp; done) | (rw [wrap_i64] <;> (try simp only [Int.natCast_add]) <;> omega) | (simp [*]; done))⟩))))
          · intro m ⟨hm, hnm⟩
            by_cases hlm : m < E.length
            · have hlm' : (m : Int) < E.length := by omega
              have hatm := ints_at E m hlm
              obtain ⟨e, he⟩ : ∃ e, E.getD m 0 = e := ⟨_, rfl⟩
              rw [he] at hatm
              have hnm2 : tryP l x t d e = none → ∀ i, i < m + 1 → tryP l x t d (E.getD i 0) = none := fun hp => ltSucc hnm (by rw [he]; exact hp)
              have hyes2 : ∀ {y : Sty}, tryP l x t d e = some y → S.findSome? (fun t => bs.findSome? (tryD l x h t)) = some y := fun {y} hp => by
                refine hyes ?_
                rw [hD]
                exact fs_hit (d := 0) hlm hnm (by rw [he]; exact hp)
              have c6 := place_ok d l (askd x d.nm t e) (by omega)
              clear hno hnk hD hnx hyes hnm hd ht he
              cases hbig : decide ((1048576 : Int) < e)
              · have hty : tryP l x t d e = placeD d l (askd x d.nm t e) := by unfold tryP; rw [hbig]; rfl
                rw [hty] at hnm2
                rw [hty] at hyes2
                generalize placeD d l (askd x d.nm t e) = r at *
                clear hty
                cases r with
                | none =>
                  have hn2 := hnm2 rfl
                  clear hnm2 hyes2
                  simp only [plE] at c6
                  unfold fp3 boxZ askd at *
                  repeat' (first
 | (apply Awp.sreg; (case hn => (simp only [List.length_cons, List.length_nil, Nat.reduceAdd] <;> rfl)))
 | (refine st_nil ?_)
 | (apply st_a; (case hc => rfl); (case he => (simp only [go_sem, *] <;> rfl)); (case hu => (simp only [updL_nil, updL_cons] <;> rfl)); (case hp => first | trivial | omega))
 | (apply st_c; (case hc => (simp only [go_sem, *] <;> rfl)); (case hl => (simp only [go_sem, *] <;> rfl)); (case hn => (simp only [go_sem, *] <;> rfl)); (case hp => first | exact c6 | (have hXz := c6; simp only [go_sem, *] at hXz; exact hXz)))
 | (apply Awp.reg; (case hn => (simp only [List.length_cons, List.length_nil, Nat.reduceAdd] <;> rfl)))
 | (refine Awp.skip ?_; try simp only [go_sem, *])
 | refine Awp.block ?_
 | (apply Awp.cond; (case hc => (simp only [go_sem, *] <;> rfl)); all_goals (intro hg; (try simp only [Bool.not_true, Bool.not_false, reduceCtorEq] at hg)))
 | refine Awp.seq ?_)
                  refine ⟨m + 1, ⟨by omega, hn2⟩, by omega, ?_⟩
                  (apply Ghost.mk [] []; (case hdead => rfl); (case hinj => rfl); (case hV => (simp only [go_sem, *]) <;> (repeat' (first | refine And.intro ?_ ?_ | exact View.int (by first | rfl | omega | (simp; done) | (rw [wrap_i64] <;> (try simp only [Int.natCast_add]) <;> omega) | (simp [*]; done)) | exact .bp rfl (by decide) | exact .own rfl (by decide)))); (case hB => (simp only [go_sem, *]) <;> (repeat' (first | refine And.intro ?_ ?_ | exact ⟨_, rfl, BView.boxF rfl⟩ | exact ⟨_, rfl, .rowE (by first | rfl | omega | (simp; done) | (rw [wrap_i64] <;> (try simp only [Int.natCast_add]) <;> omega) | (simp [*]; done))⟩))))
                | some y =>
                  have hy2 := hyes2 rfl
                  rw [hy2]
                  clear hnm2 hyes2 hy2
                  simp only [plE] at c6
                  unfold fp3 boxZ askd at *
                  repeat' (first
 | (apply Awp.sreg; (case hn => (simp only [List.length_cons, List.length_nil, Nat.reduceAdd] <;> rfl)))
 | (refine st_nil ?_)
 | (apply st_a; (case hc => rfl); (case he => (simp only [go_sem, *] <;> rfl)); (case hu => (simp only [updL_nil, updL_cons] <;> rfl)); (case hp => first | trivial | omega))
 | (apply st_c; (case hc => (simp only [go_sem, *] <;> rfl)); (case hl => (simp only [go_sem, *] <;> rfl)); (case hn => (simp only [go_sem, *] <;> rfl)); (case hp => first | exact c6 | (have hXz := c6; simp only [go_sem, *] at hXz; exact hXz)))
 | (refine Awp.ret ?_; try simp only [go_sem, *])
 | (refine Awp.skip ?_; try simp only [go_sem, *])
 | refine Awp.block ?_
 | (apply Awp.cond; (case hc => (simp only [go_sem, *] <;> rfl)); all_goals (intro hg; (try simp only [Bool.not_true, Bool.not_false, reduceCtorEq] at hg)))
 | refine Awp.seq ?_)
                  all_goals repeat' (first | exact Lower.int (by first | rfl | (simp only [true_and, Bool.true_and, Bool.false_and, Bool.and_true, Bool.and_false, Bool.true_or, Bool.false_or, reduceIte, Bool.false_eq_true, *]; done) | (simp only [true_and, reduceIte, Bool.false_eq_true, *] <;> rfl) | (simp [true_and]; done) | (simp_all [true_and]; done) | omega) | exact Lower.str (by first | rfl | (simp only [true_and, Bool.true_and, Bool.false_and, Bool.and_true, Bool.and_false, Bool.true_or, Bool.false_or, reduceIte, Bool.false_eq_true, *]; done) | (simp only [true_and, reduceIte, Bool.false_eq_true, *] <;> rfl) | (simp [true_and]; done) | (simp_all [true_and]; done) | omega) | refine Lower.aggF ?_ | refine Lower.tupF ?_ | refine All2.cons ?_ ?_ | exact All2.nil)
              · have hn2 := hnm2 (by unfold tryP; rw [hbig]; rfl)
                clear hnm2 hyes2 c6
                unfold fp3 boxZ
                repeat' (first
 | (apply Awp.sreg; (case hn => (simp only [List.length_cons, List.length_nil, Nat.reduceAdd] <;> rfl)))
 | (refine st_nil ?_)
 | (apply st_a; (case hc => rfl); (case he => (simp only [go_sem, *] <;> rfl)); (case hu => (simp only [updL_nil, updL_cons] <;> rfl)); (case hp => first | trivial | omega))
 | (apply Awp.reg; (case hn => (simp only [List.length_cons, List.length_nil, Nat.reduceAdd] <;> rfl)))
 | (refine Awp.skip ?_; try simp only [go_sem, *])
 | (refine Awp.exit ?_; try simp only [go_sem, *])
 | refine Awp.block ?_
 | (apply Awp.cond; (case hc => (simp only [go_sem, *] <;> rfl)); all_goals (intro hg; (try simp only [Bool.not_true, Bool.not_false, reduceCtorEq] at hg)))
 | refine Awp.seq ?_)
                refine ⟨m + 1, ⟨by omega, hn2⟩, by omega, ?_⟩
                (apply Ghost.mk [] []; (case hdead => rfl); (case hinj => rfl); (case hV => (simp only [go_sem, *]) <;> (repeat' (first | refine And.intro ?_ ?_ | exact View.int (by first | rfl | omega | (simp; done) | (rw [wrap_i64] <;> (try simp only [Int.natCast_add]) <;> omega) | (simp [*]; done)) | exact .bp rfl (by decide) | exact .own rfl (by decide)))); (case hB => (simp only [go_sem, *]) <;> (repeat' (first | refine And.intro ?_ ?_ | exact ⟨_, rfl, BView.boxF rfl⟩ | exact ⟨_, rfl, .rowE (by first | rfl | omega | (simp; done) | (rw [wrap_i64] <;> (try simp only [Int.natCast_add]) <;> omega) | (simp [*]; done))⟩))))
            · have hlm' : ¬ (m : Int) < E.length := by omega
              have hn2 := hnx (by rw [hD]; exact fs_no (d := 0) (Nat.le_of_not_lt hlm) hnm)
              clear hno hnk hD hnx hyes hnm hd ht
              unfold fp3 boxZ
              repeat' (first
 | (apply Awp.sreg; (case hn => (simp only [List.length_cons, List.length_nil, Nat.reduceAdd] <;> rfl)))
 | (refine st_nil ?_)
 | (apply st_a; (case hc => rfl); (case he => (simp only [go_sem, *] <;> rfl)); (case hu => (simp only [updL_nil, updL_cons] <;> rfl)); (case hp => first | trivial))
 | (apply Awp.reg; (case hn => (simp only [List.length_cons, List.length_nil, Nat.reduceAdd] <;> rfl)))
 | (refine Awp.exit ?_; try simp only [go_sem, *])
 | (apply Awp.cond; (case hc => (simp only [go_sem, *] <;> rfl)); all_goals (intro hg; (try simp only [Bool.not_true, Bool.not_false, reduceCtorEq] at hg)))
 | refine Awp.seq ?_)
              refine ⟨k + 1, ⟨by omega, hn2⟩, by omega, ?_⟩
              (apply Ghost.mk [] []; (case hdead => rfl); (case hinj => rfl); (case hV => (simp only [go_sem, *]) <;> (repeat' (first | refine And.intro ?_ ?_ | exact View.int (by first | rfl | omega | (simp; done) | (rw [wrap_i64] <;> (try simp only [Int.natCast_add]) <;> omega) | (simp [*]; done)) | exact .bp rfl (by decide) | exact .own rfl (by decide)))); (case hB => (simp only [go_sem, *]) <;> (repeat' (first | refine And.intro ?_ ?_ | exact ⟨_, rfl, BView.boxF rfl⟩ | exact ⟨_, rfl, .rowE (by first | rfl | omega | (simp; done) | (rw [wrap_i64] <;> (try simp only [Int.natCast_add]) <;> omega) | (simp [*]; done))⟩))))
        · have hlk' : ¬ (k : Int) < bs.length := by omega
          have hn2 := ltSucc hno (by rw [ht]; exact fs_no (Nat.le_of_not_lt hlk) hnk)
          clear hno hnk hat ht
          unfold fp2 boxZ
          repeat' (first
 | (apply Awp.sreg; (case hn => (simp only [List.length_cons, List.length_nil, Nat.reduceAdd] <;> rfl)))
 | (refine st_nil ?_)
 | (apply st_a; (case hc => rfl); (case he => (simp only [go_sem, *] <;> rfl)); (case hu => (simp only [updL_nil, updL_cons] <;> rfl)); (case hp => first | trivial))
 | (apply Awp.reg; (case hn => (simp only [List.length_cons, List.length_nil, Nat.reduceAdd] <;> rfl)))
 | (refine Awp.exit ?_; try simp only [go_sem, *])
 | (apply Awp.cond; (case hc => (simp only [go_sem, *] <;> rfl)); all_goals (intro hg; (try simp only [Bool.not_true, Bool.not_false, reduceCtorEq] at hg)))
 | refine Awp.seq ?_)
          refine ⟨j + 1, ⟨by omega, hn2⟩, by omega, ?_⟩
          (apply Ghost.mk [] []; (case hdead => rfl); (case hinj => rfl); (case hV => (simp only [go_sem, *]) <;> (repeat' (first | refine And.intro ?_ ?_ | exact View.int (by first | rfl | omega | (simp; done) | (rw [wrap_i64] <;> (try simp only [Int.natCast_add]) <;> omega) | (simp [*]; done)) | exact .bp rfl (by decide) | exact .own rfl (by decide)))); (case hB => (simp only [go_sem, *]) <;> (repeat' (first | refine And.intro ?_ ?_ | exact ⟨_, rfl, BView.boxF rfl⟩ | exact ⟨_, rfl, .rowE (by first | rfl | omega | (simp; done) | (rw [wrap_i64] <;> (try simp only [Int.natCast_add]) <;> omega) | (simp [*]; done))⟩))))
    · have hlt' : ¬ (j : Int) < S.length := by omega
      have hn2 : S.findSome? (fun t => bs.findSome? (tryD l x h t)) = none := fs_no (d := 0) (Nat.le_of_not_lt hlt) hno
      rw [hn2]
      clear hno hn2 hS
      unfold fp1 boxZ
      repeat' (first
 | (apply Awp.sreg; (case hn => (simp only [List.length_cons, List.length_nil, Nat.reduceAdd] <;> rfl)))
 | (refine st_nil ?_)
 | (apply st_a; (case hc => rfl); (case he => (simp only [go_sem, *] <;> rfl)); (case hu => (simp only [updL_nil, updL_cons] <;> rfl)); (case hp => first | trivial))
 | (refine Awp.ret ?_; try simp only [go_sem, *])
 | (refine Awp.exit ?_; try simp only [go_sem, *])
 | (apply Awp.cond; (case hc => (simp only [go_sem, *] <;> rfl)); all_goals (intro hg; (try simp only [Bool.not_true, Bool.not_false, reduceCtorEq] at hg)))
 | refine Awp.seq ?_)
      all_goals repeat' (first | exact Lower.int (by first | rfl | (simp only [zeroSty, Bool.true_and, Bool.false_and, Bool.and_true, Bool.and_false, Bool.true_or, Bool.false_or, reduceIte, Bool.false_eq_true, *]; done) | (simp only [zeroSty, reduceIte, Bool.false_eq_true, *] <;> rfl) | (simp [zeroSty]; done) | (simp_all [zeroSty]; done) | omega) | exact Lower.str (by first | rfl | (simp only [zeroSty, Bool.true_and, Bool.false_and, Bool.and_true, Bool.and_false, Bool.true_or, Bool.false_or, reduceIte, Bool.false_eq_true, *]; done) | (simp only [zeroSty, reduceIte, Bool.false_eq_true, *] <;> rfl) | (simp [zeroSty]; done) | (simp_all [zeroSty]; done) | omega) | refine Lower.aggF ?_ | refine Lower.tupF ?_ | refine All2.cons ?_ ?_ | exact All2.nil)
def endD (d : By) (fr : Int) (q : Sty) : Bool := (q.bay.toList == d.nm.toList) && decide (fr < q.b)
def endsD (l : List Sty) (d : By) (fr : Int) : List Int := fr :: (l.filter (endD d fr)).map (·.b)
def endsC (l : List Sty) (d : By) (fr : Int) : List Int := Lib.compact (sortI (endsD l d fr))
def tryA (bs : List By) (l : List Sty) (x : Sty) (t : Int) (d : By) (e : Int) : Option Sty := atD bs l (askd x d.nm t e)
def tryE (bs : List By) (l : List Sty) (x : Sty) (h t : Int) (d : By) : Option Sty := (endsC l d (IntKind.i64.wrap (t + h))).findSome? (tryA bs l x t d)
def fitR (bs : List By) (l : List Sty) (x : Sty) (h : Int) : Option Sty := (startsZ l x.a).findSome? fun t => bs.findSome? (tryE bs l x h t)
end Go.Proofs
namespace Go.Proofs
open Go Go.Ab
structure Sp where
  a : Int
  b : Int
def zeroSp : Sp := ⟨0, 0⟩
def hasS (l : List Sp) (n : Int) : Prop := ∃ s ∈ l, s.a ≤ n ∧ n < s.b
def hasB (l : List Sp) (n : Int) : Bool := l.any fun s => decide (s.a ≤ n) && decide (n < s.b)
theorem hasB_iff (l : List Sp) (n : Int) : hasB l n = true ↔ hasS l n := by
  unfold hasB hasS
  simp only [List.any_eq_true, Bool.and_eq_true, decide_eq_true_eq]
theorem hasS_nil (n : Int) : ¬ hasS [] n := by unfold hasS; simp
theorem hasS_cons (s : Sp) (l : List Sp) (n : Int) : hasS (s :: l) n ↔ (s.a ≤ n ∧ n < s.b) ∨ hasS l n := by
  unfold hasS; simp
theorem hasS_append (l m : List Sp) (n : Int) : hasS (l ++ m) n ↔ hasS l n ∨ hasS m n := by
  unfold hasS
  constructor
  · rintro ⟨s, hs, h⟩
    rcases List.mem_append.1 hs with hs | hs
    · exact .inl ⟨s, hs, h⟩
    · exact .inr ⟨s, hs, h⟩
  · rintro (⟨s, hs, h⟩ | ⟨s, hs, h⟩)
    · exact ⟨s, List.mem_append.2 (.inl hs), h⟩
    · exact ⟨s, List.mem_append.2 (.inr hs), h⟩
theorem hasS_single (s : Sp) (n : Int) : hasS [s] n ↔ s.a ≤ n ∧ n < s.b := by
  rw [hasS_cons]
  exact ⟨fun h => h.resolve_right (hasS_nil n), .inl⟩
theorem hasS_congr {l m : List Sp} (h : ∀ s, s ∈ l ↔ s ∈ m) (n : Int) : hasS l n ↔ hasS m n :=
  ⟨fun ⟨s, hs, k⟩ => ⟨s, (h s).1 hs, k⟩, fun ⟨s, hs, k⟩ => ⟨s, (h s).2 hs, k⟩⟩
def Canon (l : List Sp) : Prop := l.Pairwise (fun s t => s.b < t.a) ∧ ∀ s ∈ l, s.a < s.b
theorem canon_nil : Canon [] := ⟨List.Pairwise.nil, by simp⟩
theorem Canon.tail {s : Sp} {l : List Sp} (h : Canon (s :: l)) : Canon l := ⟨(List.pairwise_cons.1 h.1).2, fun t ht => h.2 t (by simp [ht])⟩
theorem canon_ext : ∀ {l m : List Sp}, Canon l → Canon m → (∀ n, hasS l n ↔ hasS m n) → l = m
  | [], [], _, _, _ => rfl
  | [], t :: m, _, hm, h => absurd ((h t.a).2 ⟨t, by simp, Int.le_refl _, hm.2 t (by simp)⟩) (hasS_nil _)
  | s :: l, [], hl, _, h => absurd ((h s.a).1 ⟨s, by simp, Int.le_refl _, hl.2 s (by simp)⟩) (hasS_nil _)
  | s :: l, t :: m, hl, hm, h => by
    have low : ∀ {s : Sp} {l : List Sp} {n : Int}, Canon (s :: l) → hasS (s :: l) n → s.a ≤ n := by
      intro s l n hc hn
      obtain ⟨u, hu, h1, h2⟩ := hn
      rcases List.mem_cons.1 hu with rfl | hu
      · exact h1
      · have := (List.pairwise_cons.1 hc.1).1 u hu
        have := hc.2 s (by simp)
        omega
    have up : ∀ {s : Sp} {l : List Sp}, Canon (s :: l) → ¬ hasS (s :: l) s.b := by
      intro s l hc hn
      obtain ⟨u, hu, h1, h2⟩ := hn
      rcases List.mem_cons.1 hu with rfl | hu
      · omega
      · have := (List.pairwise_cons.1 hc.1).1 u hu
        omega
    have hs := hl.2 s (by simp)
    have ht := hm.2 t (by simp)
    have e1 : s.a = t.a := by
      have h1 := low hl ((h t.a).2 ⟨t, by simp, Int.le_refl _, ht⟩)
      have h2 := low hm ((h s.a).1 ⟨s, by simp, Int.le_refl _, hs⟩)
      omega
    have e2 : s.b = t.b := by
      rcases Int.lt_trichotomy s.b t.b with hlt | he | hlt
      · exact absurd ((h s.b).2 ⟨t, by simp, by omega, hlt⟩) (up hl)
      · exact he
      · exact absurd ((h t.b).1 ⟨s, by simp, by omega, hlt⟩) (up hm)
    have e : s = t := by cases s; cases t; simp only at e1 e2; rw [e1, e2]
    subst e
    congr 1
    refine canon_ext hl.tail hm.tail fun n => ?_
    have out : ∀ {l : List Sp}, Canon (s :: l) → hasS l n → ¬ (s.a ≤ n ∧ n < s.b) := by
      intro l hc ⟨u, hu, h1, h2⟩ hh
      have := (List.pairwise_cons.1 hc.1).1 u hu
      omega
    have := h n
    rw [hasS_cons, hasS_cons] at this
    exact ⟨fun hh => (this.1 (.inr hh)).resolve_left (out hl hh), fun hh => (this.2 (.inr hh)).resolve_left (out hm hh)⟩
/-- Joining: one more span behind those before. -/
def stepM (out : List Sp) (s : Sp) : List Sp :=
  if 0 < out.length ∧ s.a ≤ (out.getD (out.length - 1) zeroSp).b then out.set (out.length - 1) ⟨(out.getD (out.length - 1) zeroSp).a, max (out.getD (out.length - 1) zeroSp).b s.b⟩ else out ++ [s]
def mergeS (l : List Sp) : List Sp := l.foldl stepM []
theorem stepM_snoc (o : List Sp) (t s : Sp) : stepM (o ++ [t]) s = if s.a ≤ t.b then o ++ [⟨t.a, max t.b s.b⟩] else o ++ [t] ++ [s] := by
  have e : (o ++ [t]).getD ((o ++ [t]).length - 1) zeroSp = t := by
    simp [List.getD_eq_getElem?_getD]
  unfold stepM
  rw [e]
  by_cases h : s.a ≤ t.b
  · rw [if_pos ⟨by simp, h⟩, if_pos h]
    simp [List.set_append]
  · rw [if_neg (fun hh => h hh.2), if_neg h]
theorem stepM_nil (s : Sp) : stepM [] s = [s] := rfl
theorem stepM_len (o : List Sp) (s : Sp) : (stepM o s).length ≤ o.length + 1 := by
  unfold stepM
  split <;> simp
theorem foldM_len : ∀ (l o : List Sp), (l.foldl stepM o).length ≤ o.length + l.length
  | [], o => by simp
  | s :: l, o => by
    have h1 := foldM_len l (stepM o s)
    have h2 := stepM_len o s
    simp only [List.foldl_cons, List.length_cons]
    omega
theorem canon_snoc {o : List Sp} {t : Sp} : Canon (o ++ [t]) ↔ Canon o ∧ (∀ s ∈ o, s.b < t.a) ∧ t.a < t.b := by
  unfold Canon
  rw [List.pairwise_append]
  constructor
  · rintro ⟨⟨h1, _, h3⟩, h4⟩
    exact ⟨⟨h1, fun s hs => h4 s (by simp [hs])⟩, fun s hs => h3 s hs t (by simp), h4 t (by simp)⟩
  · rintro ⟨⟨h1, h2⟩, h3, h4⟩
    refine ⟨⟨h1, by simp, fun s hs u hu => by rw [List.mem_singleton.1 hu]; exact h3 s hs⟩, fun s hs => ?_⟩
    rcases List.mem_append.1 hs with hs | hs
    · exact h2 s hs
    · rw [List.mem_singleton.1 hs]; exact h4
theorem merge_go : ∀ (r o : List Sp) (t : Sp), Canon (o ++ [t]) → r.Pairwise (fun x y => x.a ≤ y.a) → (∀ s ∈ r, t.a ≤ s.a ∧ s.a < s.b) →
    Canon (r.foldl stepM (o ++ [t])) ∧ ∀ n, hasS (r.foldl stepM (o ++ [t])) n ↔ hasS (o ++ [t]) n ∨ hasS r n
  | [], o, t, hc, _, _ => ⟨hc, fun n => by simp [hasS_nil]⟩
  | s :: r, o, t, hc, hp, hr => by
    have h1 := hr s (by simp)
    have h2 := List.pairwise_cons.1 hp
    have hc' := canon_snoc.1 hc
    rw [List.foldl_cons, stepM_snoc]
    by_cases h : s.a ≤ t.b
    · rw [if_pos h]
      have k := merge_go r o ⟨t.a, max t.b s.b⟩ (canon_snoc.2 ⟨hc'.1, hc'.2.1, by show t.a < max t.b s.b; omega⟩) h2.2 (fun u hu => ⟨by have := h2.1 u hu; show t.a ≤ u.a; omega, (hr u (by simp [hu])).2⟩)
      refine ⟨k.1, fun n => ?_⟩
      rw [k.2 n, hasS_append, hasS_append, hasS_single, hasS_single, hasS_cons]
      show ((hasS o n ∨ (t.a ≤ n ∧ n < max t.b s.b)) ∨ hasS r n) ↔ _
      have : (t.a ≤ n ∧ n < max t.b s.b) ↔ (t.a ≤ n ∧ n < t.b) ∨ (s.a ≤ n ∧ n < s.b) := by omega
      rw [this]
      constructor
      · rintro ((h | (h | h)) | h)
        · exact .inl (.inl h)
        · exact .inl (.inr h)
        · exact .inr (.inl h)
        · exact .inr (.inr h)
      · rintro ((h | h) | (h | h))
        · exact .inl (.inl h)
        · exact .inl (.inr (.inl h))
        · exact .inl (.inr (.inr h))
        · exact .inr h
    · rw [if_neg h]
      have k := merge_go r (o ++ [t]) s (canon_snoc.2 ⟨hc, fun u hu => by
        rcases List.mem_append.1 hu with hu | hu
        · have := hc'.2.1 u hu; have := hc'.2.2; omega
        · rw [List.mem_singleton.1 hu]; omega, h1.2⟩) h2.2 (fun u hu => ⟨h2.1 u hu, (hr u (by simp [hu])).2⟩)
      refine ⟨k.1, fun n => ?_⟩
      rw [k.2 n, hasS_append (o ++ [t]) [s], hasS_single, hasS_cons]
      rw [or_assoc]
theorem merge_spec {l : List Sp} (hp : l.Pairwise (fun x y => x.a ≤ y.a)) (hr : ∀ s ∈ l, s.a < s.b) : Canon (mergeS l) ∧ ∀ n, hasS (mergeS l) n ↔ hasS l n := by
  cases l with
  | nil => exact ⟨canon_nil, fun n => Iff.rfl⟩
  | cons s l =>
    have h2 := List.pairwise_cons.1 hp
    have k := merge_go l [] s (canon_snoc.2 ⟨canon_nil, by simp, hr s (by simp)⟩) h2.2 (fun u hu => ⟨h2.1 u hu, hr u (by simp [hu])⟩)
    unfold mergeS
    rw [List.foldl_cons, stepM_nil]
    rw [List.nil_append] at k
    refine ⟨k.1, fun n => ?_⟩
    rw [k.2 n, hasS_single, hasS_cons]
/-- The canonical form: sorted, joined. -/
def fullB (s : Sp) : Bool := decide (s.a < s.b)
def insS (s : Sp) : List Sp → List Sp
  | [] => [s]
  | t :: l => if t.a < s.a then t :: insS s l else s :: t :: l
def sortSp : List Sp → List Sp
  | [] => []
  | s :: l => insS s (sortSp l)
theorem mem_insS (s : Sp) : ∀ (l : List Sp) (x : Sp), x ∈ insS s l ↔ x = s ∨ x ∈ l
  | [], x => by simp [insS]
  | t :: l, x => by
    unfold insS
    split
    · rw [List.mem_cons, mem_insS s l x, List.mem_cons]
      constructor
      · rintro (h | h | h)
        · exact .inr (.inl h)
        · exact .inl h
        · exact .inr (.inr h)
      · rintro (h | h | h)
        · exact .inr (.inl h)
        · exact .inl h
        · exact .inr (.inr h)
    · simp [List.mem_cons]
theorem insS_asc (s : Sp) : ∀ (l : List Sp), l.Pairwise (fun x y => x.a ≤ y.a) → (insS s l).Pairwise (fun x y => x.a ≤ y.a)
  | [], _ => by simp [insS]
  | t :: l, h => by
    have h' := List.pairwise_cons.1 h
    unfold insS
    split
    · rw [List.pairwise_cons]
      refine ⟨fun u hu => ?_, insS_asc s l h'.2⟩
      rcases (mem_insS s l u).1 hu with rfl | hu
      · omega
      · exact h'.1 u hu
    · rw [List.pairwise_cons]
      refine ⟨fun u hu => ?_, h⟩
      rcases List.mem_cons.1 hu with rfl | hu
      · omega
      · have := h'.1 u hu; omega
theorem sortSp_spec : ∀ l : List Sp, (sortSp l).Pairwise (fun x y => x.a ≤ y.a) ∧ ∀ x, x ∈ sortSp l ↔ x ∈ l
  | [] => ⟨List.Pairwise.nil, fun x => Iff.rfl⟩
  | s :: l => by
    have h := sortSp_spec l
    refine ⟨insS_asc s _ h.1, fun x => ?_⟩
    show x ∈ insS s (sortSp l) ↔ _
    rw [mem_insS, h.2 x, List.mem_cons]
def canon (l : List Sp) : List Sp := mergeS (sortSp (l.filter fullB))
theorem filter_has (l : List Sp) (n : Int) : hasS (l.filter fullB) n ↔ hasS l n := by
  unfold hasS fullB
  constructor
  · rintro ⟨s, hs, h⟩
    exact ⟨s, (List.mem_filter.1 hs).1, h⟩
  · rintro ⟨s, hs, h1, h2⟩
    exact ⟨s, List.mem_filter.2 ⟨hs, by simp; omega⟩, h1, h2⟩
theorem canon_is (l : List Sp) : Canon (canon l) ∧ ∀ n, hasS (canon l) n ↔ hasS l n := by
  have h := sortSp_spec (l.filter fullB)
  have k := merge_spec h.1 (fun s hs => by
    have := (List.mem_filter.1 ((h.2 s).1 hs)).2
    simpa [fullB] using this)
  refine ⟨k.1, fun n => ?_⟩
  rw [show canon l = mergeS (sortSp (l.filter fullB)) from rfl, k.2 n, hasS_congr h.2, filter_has]
/-- Whatever sorts and joins gives the canonical form. -/
theorem merge_canon {l m : List Sp} (hp : m.Pairwise (fun x y => x.a ≤ y.a)) (hm : ∀ s, s ∈ m ↔ s ∈ l.filter fullB) : mergeS m = canon l := by
  have k := merge_spec hp (fun s hs => by
    have := (List.mem_filter.1 ((hm s).1 hs)).2
    simpa [fullB] using this)
  refine canon_ext k.1 (canon_is l).1 fun n => ?_
  rw [k.2 n, (canon_is l).2 n, hasS_congr hm, filter_has]
theorem canon_eq {l m : List Sp} (hl : Canon l) (h : ∀ n, hasS l n ↔ hasS m n) : l = canon m :=
  canon_ext hl (canon_is m).1 fun n => (h n).trans ((canon_is m).2 n).symm
theorem canon_same {l m : List Sp} (h : ∀ n, hasS l n ↔ hasS m n) : canon l = canon m :=
  canon_ext (canon_is l).1 (canon_is m).1 fun n => ((canon_is l).2 n).trans ((h n).trans ((canon_is m).2 n).symm)
/-- Taking together, taking what is in both, taking away. -/
def interL (l m : List Sp) : List Sp := l.flatMap fun s => m.map fun t => ⟨max s.a t.a, min s.b t.b⟩
theorem inter_has (l m : List Sp) (n : Int) : hasS (interL l m) n ↔ hasS l n ∧ hasS m n := by
  unfold interL hasS
  constructor
  · rintro ⟨u, hu, h1, h2⟩
    obtain ⟨s, hs, hu⟩ := List.mem_flatMap.1 hu
    obtain ⟨t, ht, rfl⟩ := List.mem_map.1 hu
    simp only at h1 h2
    exact ⟨⟨s, hs, by omega⟩, ⟨t, ht, by omega⟩⟩
  · rintro ⟨⟨s, hs, h⟩, ⟨t, ht, k⟩⟩
    exact ⟨⟨max s.a t.a, min s.b t.b⟩, List.mem_flatMap.2 ⟨s, hs, List.mem_map.2 ⟨t, ht, rfl⟩⟩, by show max s.a t.a ≤ n ∧ n < min s.b t.b; omega⟩
def cutL (l : List Sp) (t : Sp) : List Sp := l.flatMap fun s => [⟨s.a, min s.b t.a⟩, ⟨max s.a t.b, s.b⟩]
theorem cut_has (l : List Sp) (t : Sp) (ht : t.a < t.b) (n : Int) : hasS (cutL l t) n ↔ hasS l n ∧ ¬ (t.a ≤ n ∧ n < t.b) := by
  unfold cutL hasS
  constructor
  · rintro ⟨u, hu, h1, h2⟩
    obtain ⟨s, hs, hu⟩ := List.mem_flatMap.1 hu
    rcases List.mem_cons.1 hu with rfl | hu
    · simp only at h1 h2
      exact ⟨⟨s, hs, by omega⟩, by omega⟩
    · rw [List.mem_singleton.1 hu] at h1 h2
      simp only at h1 h2
      exact ⟨⟨s, hs, by omega⟩, by omega⟩
  · rintro ⟨⟨s, hs, h⟩, k⟩
    by_cases hn : n < t.a
    · exact ⟨⟨s.a, min s.b t.a⟩, List.mem_flatMap.2 ⟨s, hs, by simp⟩, by show s.a ≤ n ∧ n < min s.b t.a; omega⟩
    · exact ⟨⟨max s.a t.b, s.b⟩, List.mem_flatMap.2 ⟨s, hs, by simp⟩, by show max s.a t.b ≤ n ∧ n < s.b; omega⟩
def stepC (l : List Sp) (t : Sp) : List Sp := if t.a < t.b then canon (cutL l t) else l
def minusL (l m : List Sp) : List Sp := m.foldl stepC (canon l)
theorem minus_go : ∀ (m l : List Sp), Canon l → Canon (m.foldl stepC l) ∧ ∀ n, hasS (m.foldl stepC l) n ↔ hasS l n ∧ ¬ hasS m n
  | [], l, h => ⟨h, fun n => by simp [hasS_nil]⟩
  | t :: m, l, h => by
    rw [List.foldl_cons]
    unfold stepC
    by_cases ht : t.a < t.b
    · rw [if_pos ht]
      have k := minus_go m (canon (cutL l t)) (canon_is _).1
      refine ⟨k.1, fun n => ?_⟩
      have := k.2 n
      unfold stepC at this
      rw [this, (canon_is _).2 n, cut_has l t ht, hasS_cons, not_or, and_assoc]
    · rw [if_neg ht]
      have k := minus_go m l h
      refine ⟨k.1, fun n => ?_⟩
      have := k.2 n
      unfold stepC at this
      rw [this, hasS_cons, not_or]
      constructor
      · rintro ⟨h1, h2⟩; exact ⟨h1, by omega, h2⟩
      · rintro ⟨h1, _, h2⟩; exact ⟨h1, h2⟩
theorem minus_is (l m : List Sp) : Canon (minusL l m) ∧ ∀ n, hasS (minusL l m) n ↔ hasS l n ∧ ¬ hasS m n := by
  have k := minus_go m (canon l) (canon_is l).1
  exact ⟨k.1, fun n => by unfold minusL; rw [k.2 n, (canon_is l).2 n]⟩
end Go.Proofs
namespace Go.Proofs
def sumN : Nat → (Nat → Int) → Int
  | 0, _ => 0
  | n + 1, f => sumN n f + f n
end Go.Proofs
namespace Go.Proofs
open Go Go.Ab
def placesS (l : List Sp) : List Int := l.flatMap fun s => [s.a, s.b]
theorem mem_places (l : List Sp) (p : Int) : p ∈ placesS l ↔ ∃ s ∈ l, p = s.a ∨ p = s.b := by
  unfold placesS; simp
def segs (f : Int → Bool) : List Int → List Sp
  | p :: q :: r => (if f p = true then [⟨p, q⟩] else []) ++ segs f (q :: r)
  | _ => []
theorem segs_has (f : Int → Bool) : ∀ (r : List Int) (p : Int), (p :: r).Pairwise (· < ·) → (∀ m n, p ≤ m → m ≤ n → (∀ q ∈ r, m < q → n < q) → f n = f m) →
    ∀ n, hasS (segs f (p :: r)) n ↔ p ≤ n ∧ f n = true ∧ ∃ q ∈ r, n < q
  | [], p, _, _, n => by simp [segs, hasS_nil]
  | q :: r, p, hp, H, n => by
    have hp' := List.pairwise_cons.1 hp
    have hpq := hp'.1 q (by simp)
    have k := segs_has f r q hp'.2 (fun m n hm hmn hq => H m n (by omega) hmn fun x hx hmx => by
      rcases List.mem_cons.1 hx with rfl | hx
      · omega
      · exact hq x hx hmx) n
    have hq' := List.pairwise_cons.1 hp'.2
    unfold segs
    rw [hasS_append, k]
    have e : ∀ n, p ≤ n → n < q → f n = f p := fun n h1 h2 => H p n (Int.le_refl _) h1 fun x hx _ => by
      rcases List.mem_cons.1 hx with rfl | hx
      · exact h2
      · have := hq'.1 x hx; omega
    constructor
    · rintro (h | ⟨h1, h2, x, hx, h3⟩)
      · by_cases hf : f p = true
        · rw [if_pos hf, hasS_single] at h
          simp only at h
          exact ⟨h.1, by rw [e n h.1 h.2, hf], q, by simp, h.2⟩
        · rw [if_neg hf] at h; exact absurd h (hasS_nil n)
      · exact ⟨by omega, h2, x, by simp [hx], h3⟩
    · rintro ⟨h1, h2, x, hx, h3⟩
      by_cases hn : n < q
      · refine .inl ?_
        rw [← e n h1 hn, if_pos h2, hasS_single]
        exact ⟨h1, hn⟩
      · refine .inr ⟨by omega, h2, ?_⟩
        rcases List.mem_cons.1 hx with rfl | hx
        · omega
        · exact ⟨x, hx, h3⟩
theorem has_const {l : List Sp} {P : List Int} (hP : ∀ s ∈ l, s.a ∈ P ∧ s.b ∈ P) {m n : Int} (hmn : m ≤ n) (h : ∀ q ∈ P, m < q → n < q) : hasB l n = hasB l m := by
  rw [Bool.eq_iff_iff, hasB_iff, hasB_iff]
  constructor
  · rintro ⟨s, hs, h1, h2⟩
    refine ⟨s, hs, ?_, by omega⟩
    by_cases hh : s.a ≤ m
    · exact hh
    · have := h s.a (hP s hs).1 (by omega); omega
  · rintro ⟨s, hs, h1, h2⟩
    exact ⟨s, hs, by omega, h s.b (hP s hs).2 h2⟩
def sweepL (g : Bool → Bool → Bool) (a b : List Sp) (P : List Int) : List Sp := segs (fun p => g (hasB a p) (hasB b p)) P
theorem sweep_has {g : Bool → Bool → Bool} (hg : g false false = false) {a b : List Sp} {P : List Int} (hP : P.Pairwise (· < ·)) (hm : ∀ p, p ∈ P ↔ p ∈ placesS (a ++ b)) (n : Int) :
    hasS (sweepL g a b P) n ↔ g (hasB a n) (hasB b n) = true := by
  have ha : ∀ s ∈ a, s.a ∈ P ∧ s.b ∈ P := fun s hs => ⟨(hm _).2 ((mem_places _ _).2 ⟨s, by simp [hs], .inl rfl⟩), (hm _).2 ((mem_places _ _).2 ⟨s, by simp [hs], .inr rfl⟩)⟩
  have hb : ∀ s ∈ b, s.a ∈ P ∧ s.b ∈ P := fun s hs => ⟨(hm _).2 ((mem_places _ _).2 ⟨s, by simp [hs], .inl rfl⟩), (hm _).2 ((mem_places _ _).2 ⟨s, by simp [hs], .inr rfl⟩)⟩
  have hex : g (hasB a n) (hasB b n) = true → ∃ x ∈ P, ∃ y ∈ P, x ≤ n ∧ n < y := by
    intro h
    have : hasB a n = true ∨ hasB b n = true := by
      cases h1 : hasB a n <;> cases h2 : hasB b n <;> simp_all
    rcases this with h1 | h1 <;> rw [hasB_iff] at h1 <;> obtain ⟨s, hs, h2, h3⟩ := h1
    · exact ⟨s.a, (ha s hs).1, s.b, (ha s hs).2, h2, h3⟩
    · exact ⟨s.a, (hb s hs).1, s.b, (hb s hs).2, h2, h3⟩
  unfold sweepL
  cases P with
  | nil =>
    refine ⟨fun h => absurd h (hasS_nil n), fun h => ?_⟩
    obtain ⟨x, hx, _⟩ := hex h
    simp at hx
  | cons p r =>
    have hp := List.pairwise_cons.1 hP
    rw [segs_has _ r p hP (fun m n h1 h2 h3 => by
      have h4 : ∀ q ∈ p :: r, m < q → n < q := fun q hq hmq => by
        rcases List.mem_cons.1 hq with rfl | hq
        · omega
        · exact h3 q hq hmq
      show g (hasB a n) (hasB b n) = g (hasB a m) (hasB b m)
      rw [has_const ha h2 h4, has_const hb h2 h4]) n]
    refine ⟨fun h => h.2.1, fun h => ?_⟩
    obtain ⟨x, hx, y, hy, h1, h2⟩ := hex h
    have hpx : p ≤ x := by
      rcases List.mem_cons.1 hx with rfl | hx
      · omega
      · have := hp.1 x hx; omega
    refine ⟨by omega, h, y, ?_, h2⟩
    rcases List.mem_cons.1 hy with rfl | hy
    · omega
    · exact hy
/-- The first free start. -/
def fitGo (len : Int) : List Sp → Int → Int
  | [], st => st
  | s :: l, st => if s.b ≤ st then fitGo len l st else if st < s.a ∧ len ≤ s.a - st then st else fitGo len l s.b
end Go.Proofs
namespace Go.Proofs
open Go Go.Ab
set_option maxHeartbeats 4000000
set_option maxRecDepth 100000
attribute [local irreducible] Awp aops aopsL Go.Ab.Pure PureOwn
def Sp.cells (s : Sp) : List AV := [.v (.int .i64 s.a), .v (.int .i64 s.b)]
def Sp.av (s : Sp) : AV := .agg s.cells
attribute [go_sem] Sp.av Sp.cells
def sps (l : List Sp) : List (List AV) := l.map Sp.cells
@[go_sem] theorem sps_len (l : List Sp) : (sps l).length = l.length := by simp [sps]
theorem sps_at (l : List Sp) (i : Nat) (h : i < l.length) : (sps l).getD i [] = (l.getD i zeroSp).cells := by
  simp [sps, List.getD_eq_getElem?_getD, h]
theorem sps_one (l : List Sp) : ∀ y ∈ sps l, y.length = 2 := by
  intro y hy; obtain ⟨s, _, rfl⟩ := List.mem_map.1 hy; rfl
theorem sps_append (l m : List Sp) : sps (l ++ m) = sps l ++ sps m := by simp [sps]
theorem sps_snoc (l : List Sp) (x : Sp) : sps l ++ [[.v (.int .i64 x.a), .v (.int .i64 x.b)]] = sps (l ++ [x]) := by simp [sps, Sp.cells]
theorem sps_one1 (x : Sp) : [[AV.v (.int .i64 x.a), .v (.int .i64 x.b)]] = sps [x] := rfl
theorem sps_set (l : List Sp) (i : Nat) (x : Sp) : (sps l).set i [.v (.int .i64 x.a), .v (.int .i64 x.b)] = sps (l.set i x) := by
  simp [sps, List.map_set, Sp.cells]
theorem empty_ok (x : Sp) : Pure Tryz.prog 102 [x.av] (.v (.bool (decide (x.b ≤ x.a)))) := by
  refine fn_pure Tryz.F102 (Nat.le_of_ble_eq_true rfl) ?_; unfold Tryz.ac102 AR AM AO
  repeat' (first
 | (apply Awp.sreg; (case hn => (simp only [List.length_cons, List.length_nil, Nat.reduceAdd] <;> rfl)))
 | (refine st_nil ?_)
 | (apply st_a; (case hc => rfl); (case he => (simp only [go_sem, *] <;> rfl)); (case hu => (simp only [updL_nil, updL_cons] <;> rfl)); (case hp => first | trivial))
 | (refine Awp.ret ?_; try simp only [go_sem, *]))
  all_goals repeat' (first | exact Lower.bool (by first | rfl | (simp only [true_and, Bool.true_and, Bool.false_and, Bool.and_true, Bool.and_false, Bool.true_or, Bool.false_or, reduceIte, Bool.false_eq_true, *]; done) | (simp only [true_and, reduceIte, Bool.false_eq_true, *] <;> rfl) | (simp [true_and]; done) | (simp_all [true_and]; done) | omega))
theorem index_ok (l : List Sp) (g : Nat) (cs : List AV) (p : Sp → Bool) (hl : l.length < 1000000) (hp : ∀ x : Sp, Pure Tryz.prog g [x.av, .rp cs] (.v (.bool (p x)))) :
    Pure Tryz.prog 111 [.sl (sps l), .fn g [.rp cs]] (.v (.int .i64 (idxF p l))) := by
  refine fn_pure Tryz.F111 (Nat.le_of_ble_eq_true rfl) ?_; unfold Tryz.ac111 AR AM AO
  repeat' (first
 | (apply Awp.sreg; (case hn => (simp only [List.length_cons, List.length_nil, Nat.reduceAdd] <;> rfl)))
 | (refine st_nil ?_)
 | (apply st_a; (case hc => rfl); (case he => (simp only [go_sem, *] <;> rfl)); (case hu => (simp only [updL_nil, updL_cons] <;> rfl)); (case hp => first | trivial))
 | refine Awp.block ?_
 | refine Awp.seq ?_)
  refine Awp.loop (fun i : Nat => i ≤ l.length ∧ ∀ j, j < i → p (l.getD j zeroSp) = false) 40 (fun i => mkS [(0, .sl (sps l)), (1, .fn g [.rp cs]), (7, .v (.int .i64 l.length)), (8, .v (.int .i64 i))] []) (fun i => l.length - i) 0 (by simp) ?_ ?_
  · (apply Ghost.mk [] []; (case hdead => rfl); (case hinj => rfl); (case hV => (simp only [go_sem, *]) <;> (repeat' (first | refine And.intro ?_ ?_ | exact View.int (by first | rfl | omega | (simp; done) | (rw [wrap_i64] <;> (try simp only [Int.natCast_add]) <;> omega) | (simp [*]; done)) | (refine View.fnF ?_; (simp [AV.flat]; done))))); (case hB => (simp only [go_sem, *]) <;> (repeat' (first | skip; done))))
  · intro i ⟨hi, hj⟩
    by_cases hlt : i < l.length
    · have hlt' : (i : Int) < l.length := by omega
      have hat := sps_at l i hlt
      have hz : ((l.getD i zeroSp).cells).length = 2 := rfl
      have hpi := hp (l.getD i zeroSp)
      repeat' (first
 | (apply Awp.sreg; (case hn => (simp only [List.length_cons, List.length_nil, Nat.reduceAdd] <;> rfl)))
 | (refine st_nil ?_)
 | (apply st_a; (case hc => rfl); (case he => (simp only [go_sem, *] <;> rfl)); (case hu => (simp only [updL_nil, updL_cons] <;> rfl)); (case hp => first | trivial | omega))
 | (apply st_c; (case hc => (simp only [go_sem, *] <;> rfl)); (case hl => (simp only [go_sem, *] <;> rfl)); (case hn => (simp only [go_sem, *] <;> rfl)); (case hp => first | exact hpi | (have hXz := hpi; simp only [go_sem, *] at hXz; exact hXz)))
 | (apply Awp.reg; (case hn => (simp only [List.length_cons, List.length_nil, Nat.reduceAdd] <;> rfl)))
 | (refine Awp.ret ?_; try simp only [go_sem, *])
 | (refine Awp.skip ?_; try simp only [go_sem, *])
 | refine Awp.block ?_
 | (apply Awp.cond; (case hc => (simp only [go_sem, *] <;> rfl)); all_goals (intro hg; (try simp only [Bool.not_true, Bool.not_false, reduceCtorEq] at hg)))
 | refine Awp.seq ?_)
      · exact Lower.int (idxF_in hlt hg hj).symm
      · refine ⟨i + 1, ⟨by omega, ltSucc hj hg⟩, by omega, ?_⟩
        (apply Ghost.mk [] []; (case hdead => rfl); (case hinj => rfl); (case hV => (simp only [go_sem, *]) <;> (repeat' (first | refine And.intro ?_ ?_ | exact View.int (by first | rfl | omega | (simp; done) | (rw [wrap_i64] <;> (try simp only [Int.natCast_add]) <;> omega) | (simp [*]; done)) | (refine View.fnF ?_; (simp [AV.flat]; done))))); (case hB => (simp only [go_sem, *]) <;> (repeat' (first | skip; done))))
    · have hlt' : ¬ (i : Int) < l.length := by omega
      repeat' (first
 | (apply Awp.sreg; (case hn => (simp only [List.length_cons, List.length_nil, Nat.reduceAdd] <;> rfl)))
 | (refine st_nil ?_)
 | (apply st_a; (case hc => rfl); (case he => (simp only [go_sem, *] <;> rfl)); (case hu => (simp only [updL_nil, updL_cons] <;> rfl)); (case hp => first | trivial))
 | (refine Awp.ret ?_; try simp only [go_sem, *])
 | (refine Awp.exit ?_; try simp only [go_sem, *])
 | (apply Awp.cond; (case hc => (simp only [go_sem, *] <;> rfl)); all_goals (intro hg; (try simp only [Bool.not_true, Bool.not_false, reduceCtorEq] at hg); (try have hg' := hg); (try simp only [decide_eq_true_eq, decide_eq_false_iff_not, Bool.and_eq_true, Bool.or_eq_false_iff, bne_iff_ne, bne_eq_false_iff_eq, beq_iff_eq, beq_eq_false_iff_ne, Int.not_lt, Int.not_le, Int.ofNat_lt, Int.ofNat_le, Int.natCast_inj] at hg')))
 | refine Awp.seq ?_)
      exact Lower.int (idxF_out (Nat.le_of_not_lt hlt) hj).symm
theorem indexN_ok (l : List Sp) (g : Nat) (p : Sp → Bool) (hl : l.length < 1000000) (hp : ∀ x : Sp, Pure Tryz.prog g [x.av] (.v (.bool (p x)))) :
    Pure Tryz.prog 111 [.sl (sps l), .fn g []] (.v (.int .i64 (idxF p l))) := by
  refine fn_pure Tryz.F111 (Nat.le_of_ble_eq_true rfl) ?_; unfold Tryz.ac111 AR AM AO
  repeat' (first
 | (apply Awp.sreg; (case hn => (simp only [List.length_cons, List.length_nil, Nat.reduceAdd] <;> rfl)))
 | (refine st_nil ?_)
 | (apply st_a; (case hc => rfl); (case he => (simp only [go_sem, *] <;> rfl)); (case hu => (simp only [updL_nil, updL_cons] <;> rfl)); (case hp => first | trivial))
 | refine Awp.block ?_
 | refine Awp.seq ?_)
  refine Awp.loop (fun i : Nat => i ≤ l.length ∧ ∀ j, j < i → p (l.getD j zeroSp) = false) 40 (fun i => mkS [(0, .sl (sps l)), (1, .fn g []), (7, .v (.int .i64 l.length)), (8, .v (.int .i64 i))] []) (fun i => l.length - i) 0 (by simp) ?_ ?_
  · (apply Ghost.mk [] []; (case hdead => rfl); (case hinj => rfl); (case hV => (simp only [go_sem, *]) <;> (repeat' (first | refine And.intro ?_ ?_ | exact View.int (by first | rfl | omega | (simp; done) | (rw [wrap_i64] <;> (try simp only [Int.natCast_add]) <;> omega) | (simp [*]; done)) | (refine View.fnF ?_; (simp [AV.flat]; done))))); (case hB => (simp only [go_sem, *]) <;> (repeat' (first | skip; done))))
  · intro i ⟨hi, hj⟩
    by_cases hlt : i < l.length
    · have hlt' : (i : Int) < l.length := by omega
      have hat := sps_at l i hlt
      have hz : ((l.getD i zeroSp).cells).length = 2 := rfl
      have hpi := hp (l.getD i zeroSp)
      repeat' (first
 | (apply Awp.sreg; (case hn => (simp only [List.length_cons, List.length_nil, Nat.reduceAdd] <;> rfl)))
 | (refine st_nil ?_)
 | (apply st_a; (case hc => rfl); (case he => (simp only [go_sem, *] <;> rfl)); (case hu => (simp only [updL_nil, updL_cons] <;> rfl)); (case hp => first | trivial | omega))
 | (apply st_c; (case hc => (simp only [go_sem, *] <;> rfl)); (case hl => (simp only [go_sem, *] <;> rfl)); (case hn => (simp only [go_sem, *] <;> rfl)); (case hp => first | exact hpi | (have hXz := hpi; simp only [go_sem, *] at hXz; exact hXz)))
 | (apply Awp.reg; (case hn => (simp only [List.length_cons, List.length_nil, Nat.reduceAdd] <;> rfl)))
 | (refine Awp.ret ?_; try simp only [go_sem, *])
 | (refine Awp.skip ?_; try simp only [go_sem, *])
 | refine Awp.block ?_
 | (apply Awp.cond; (case hc => (simp only [go_sem, *] <;> rfl)); all_goals (intro hg; (try simp only [Bool.not_true, Bool.not_false, reduceCtorEq] at hg)))
 | refine Awp.seq ?_)
      · exact Lower.int (idxF_in hlt hg hj).symm
      · refine ⟨i + 1, ⟨by omega, ltSucc hj hg⟩, by omega, ?_⟩
        (apply Ghost.mk [] []; (case hdead => rfl); (case hinj => rfl); (case hV => (simp only [go_sem, *]) <;> (repeat' (first | refine And.intro ?_ ?_ | exact View.int (by first | rfl | omega | (simp; done) | (rw [wrap_i64] <;> (try simp only [Int.natCast_add]) <;> omega) | (simp [*]; done)) | (refine View.fnF ?_; (simp [AV.flat]; done))))); (case hB => (simp only [go_sem, *]) <;> (repeat' (first | skip; done))))
    · have hlt' : ¬ (i : Int) < l.length := by omega
      repeat' (first
 | (apply Awp.sreg; (case hn => (simp only [List.length_cons, List.length_nil, Nat.reduceAdd] <;> rfl)))
 | (refine st_nil ?_)
 | (apply st_a; (case hc => rfl); (case he => (simp only [go_sem, *] <;> rfl)); (case hu => (simp only [updL_nil, updL_cons] <;> rfl)); (case hp => first | trivial))
 | (refine Awp.ret ?_; try simp only [go_sem, *])
 | (refine Awp.exit ?_; try simp only [go_sem, *])
 | (apply Awp.cond; (case hc => (simp only [go_sem, *] <;> rfl)); all_goals (intro hg; (try simp only [Bool.not_true, Bool.not_false, reduceCtorEq] at hg); (try have hg' := hg); (try simp only [decide_eq_true_eq, decide_eq_false_iff_not, Bool.and_eq_true, Bool.or_eq_false_iff, bne_iff_ne, bne_eq_false_iff_eq, beq_iff_eq, beq_eq_false_iff_ne, Int.not_lt, Int.not_le, Int.ofNat_lt, Int.ofNat_le, Int.natCast_inj] at hg')))
 | refine Awp.seq ?_)
      exact Lower.int (idxF_out (Nat.le_of_not_lt hlt) hj).symm
theorem take_snocP (l : List Sp) (i : Nat) (h : i < l.length) : l.take (i + 1) = l.take i ++ [l.getD i zeroSp] := by
  rw [List.take_add_one, List.getElem?_eq_getElem h]
  simp [List.getD_eq_getElem?_getD, h]
theorem same_ok (a : List Sp) (hl : a.length < 1000000) : Pure Tryz.prog 17 [.sl (sps a), .sl (sps a)] (.v (.bool true)) := by
  have hn : ((a.length : Int) != a.length) = false := by simp
  refine fn_pure Tryz.F17 (Nat.le_of_ble_eq_true rfl) ?_; unfold Tryz.ac17 AR AM AO
  repeat' (first
 | (apply Awp.sreg; (case hn => (simp only [List.length_cons, List.length_nil, Nat.reduceAdd] <;> rfl)))
 | (refine st_nil ?_)
 | (apply st_a; (case hc => rfl); (case he => (simp only [go_sem, *] <;> rfl)); (case hu => (simp only [updL_nil, updL_cons] <;> rfl)); (case hp => first | trivial))
 | (refine Awp.skip ?_; try simp only [go_sem, *])
 | refine Awp.block ?_
 | (apply Awp.cond; (case hc => (simp only [go_sem, *] <;> rfl)); all_goals (intro hg; (try simp only [Bool.not_true, Bool.not_false, reduceCtorEq] at hg)))
 | refine Awp.seq ?_)
  clear hn
  refine Awp.loop (fun i : Nat => i ≤ a.length) 60 (fun i => mkS [(0, .sl (sps a)), (1, .sl (sps a)), (5, .v (.int .i64 i))] []) (fun i => a.length - i) 0 (by omega) ?_ ?_
  · (apply Ghost.mk [] []; (case hdead => rfl); (case hinj => rfl); (case hV => (simp only [go_sem, *]) <;> (repeat' (first | exact View.int (by first | rfl | omega | (simp; done) | (rw [wrap_i64] <;> (try simp only [Int.natCast_add]) <;> omega) | (simp [*]; done))))); (case hB => (simp only [go_sem, *]) <;> (repeat' (first | skip; done))))
  · intro i hi
    by_cases hlt : i < a.length
    · have hlt' : (i : Int) < a.length := by omega
      have hat := sps_at a i hlt
      have hz : ((a.getD i zeroSp).cells).length = 2 := rfl
      generalize a.getD i zeroSp = x at *
      have e1 : (x.a == x.a) = true := by simp
      have e2 : (x.b == x.b) = true := by simp
      have e3 : (true ^^ true) = false := rfl
      repeat' (first
 | (apply Awp.sreg; (case hn => (simp only [List.length_cons, List.length_nil, Nat.reduceAdd] <;> rfl)))
 | (apply Awp.sdraw; (case hn => (simp only [List.length_cons, List.length_nil, Nat.reduceAdd] <;> rfl)))
 | (refine st_nil ?_)
 | (apply st_a; (case hc => rfl); (case he => (simp only [go_sem, *] <;> rfl)); (case hu => (simp only [updL_nil, updL_cons] <;> rfl)); (case hp => first | trivial))
 | (apply Awp.reg; (case hn => (simp only [List.length_cons, List.length_nil, Nat.reduceAdd] <;> rfl)))
 | (refine Awp.skip ?_; try simp only [go_sem, *])
 | refine Awp.block ?_
 | (apply Awp.cond; (case hc => (simp only [go_sem, *] <;> rfl)); all_goals (intro hg; (try simp only [Bool.not_true, Bool.not_false, reduceCtorEq] at hg)))
 | refine Awp.seq ?_
 | (apply sl_a; (case hc => rfl); (case he => (simp only [go_sem, *] <;> rfl)); (case hu => (simp only [updL_nil, updL_cons] <;> rfl)); (case hl => (simp only [List.map_cons, List.map_nil] <;> rfl)); (case hp => first | trivial | omega))
 | (refine sl_nil (And.intro (by first | exact drawOk_of (by decide +kernel) | (simp only [List.map_cons, List.map_nil]; exact drawOk_of (by decide +kernel)) | decide) ?_)))
      refine ⟨i + 1, by omega, by omega, ?_⟩
      (apply Ghost.mk [] []; (case hdead => rfl); (case hinj => rfl); (case hV => (simp only [go_sem, *]) <;> (repeat' (first | exact View.int (by first | rfl | omega | (simp; done) | (rw [wrap_i64] <;> (try simp only [Int.natCast_add]) <;> omega) | (simp [*]; done))))); (case hB => (simp only [go_sem, *]) <;> (repeat' (first | skip; done))))
    · have hlt' : ¬ (i : Int) < a.length := by omega
      repeat' (first
 | (apply Awp.sreg; (case hn => (simp only [List.length_cons, List.length_nil, Nat.reduceAdd] <;> rfl)))
 | (refine st_nil ?_)
 | (apply st_a; (case hc => rfl); (case he => (simp only [go_sem, *] <;> rfl)); (case hu => (simp only [updL_nil, updL_cons] <;> rfl)); (case hp => first | trivial))
 | (refine Awp.ret ?_; try simp only [go_sem, *])
 | (refine Awp.exit ?_; try simp only [go_sem, *])
 | (apply Awp.cond; (case hc => (simp only [go_sem, *] <;> rfl)); all_goals (intro hg; (try simp only [Bool.not_true, Bool.not_false, reduceCtorEq] at hg); (try have hg' := hg); (try simp only [decide_eq_true_eq, decide_eq_false_iff_not, Bool.and_eq_true, Bool.or_eq_false_iff, bne_iff_ne, bne_eq_false_iff_eq, beq_iff_eq, beq_eq_false_iff_ne, Int.not_lt, Int.not_le, Int.ofNat_lt, Int.ofNat_le, Int.natCast_inj] at hg')))
 | refine Awp.seq ?_)
      all_goals repeat' (first | exact Lower.bool (by first | rfl | (simp only [true_and, Bool.true_and, Bool.false_and, Bool.and_true, Bool.and_false, Bool.true_or, Bool.false_or, reduceIte, Bool.false_eq_true, *]; done) | (simp only [true_and, reduceIte, Bool.false_eq_true, *] <;> rfl) | (simp [true_and]; done) | (simp_all [true_and]; done) | omega))
end Go.Proofs
namespace Go.Proofs
open Go Go.Ab
set_option maxHeartbeats 8000000
set_option maxRecDepth 100000
attribute [local irreducible] Awp aops aopsL Go.Ab.Pure PureOwn
theorem sameI_ok (a : List Int) (hl : a.length < 1000000) : Pure Tryz.prog 14 [.sl (ints a), .sl (ints a)] (.v (.bool true)) := by
  have hn : ((a.length : Int) != a.length) = false := by simp
  refine fn_pure Tryz.F14 (Nat.le_of_ble_eq_true rfl) ?_; unfold Tryz.ac14 AR AM AO
  repeat' (first
 | (apply Awp.sreg; (case hn => (simp only [List.length_cons, List.length_nil, Nat.reduceAdd] <;> rfl)))
 | (refine st_nil ?_)
 | (apply st_a; (case hc => rfl); (case he => (simp only [go_sem, *] <;> rfl)); (case hu => (simp only [updL_nil, updL_cons] <;> rfl)); (case hp => first | trivial))
 | (refine Awp.skip ?_; try simp only [go_sem, *])
 | refine Awp.block ?_
 | (apply Awp.cond; (case hc => (simp only [go_sem, *] <;> rfl)); all_goals (intro hg; (try simp only [Bool.not_true, Bool.not_false, reduceCtorEq] at hg)))
 | refine Awp.seq ?_)
  clear hn
  refine Awp.loop (fun i : Nat => i ≤ a.length) 60 (fun i => mkS [(0, .sl (ints a)), (1, .sl (ints a)), (5, .v (.int .i64 i))] []) (fun i => a.length - i) 0 (by omega) ?_ ?_
  · (apply Ghost.mk [] []; (case hdead => rfl); (case hinj => rfl); (case hV => (simp only [go_sem, *]) <;> (repeat' (first | exact View.int (by first | rfl | omega | (simp; done) | (rw [wrap_i64] <;> (try simp only [Int.natCast_add]) <;> omega) | (simp [*]; done))))); (case hB => (simp only [go_sem, *]) <;> (repeat' (first | skip; done))))
  · intro i hi
    by_cases hlt : i < a.length
    · have hlt' : (i : Int) < a.length := by omega
      have hat := ints_at a i hlt
      generalize a.getD i 0 = x at *
      have e1 : (x != x) = false := by simp
      repeat' (first
 | (apply Awp.sreg; (case hn => (simp only [List.length_cons, List.length_nil, Nat.reduceAdd] <;> rfl)))
 | (apply Awp.sdraw; (case hn => (simp only [List.length_cons, List.length_nil, Nat.reduceAdd] <;> rfl)))
 | (refine st_nil ?_)
 | (apply st_a; (case hc => rfl); (case he => (simp only [go_sem, *] <;> rfl)); (case hu => (simp only [updL_nil, updL_cons] <;> rfl)); (case hp => first | trivial))
 | (apply Awp.reg; (case hn => (simp only [List.length_cons, List.length_nil, Nat.reduceAdd] <;> rfl)))
 | (refine Awp.skip ?_; try simp only [go_sem, *])
 | refine Awp.block ?_
 | (apply Awp.cond; (case hc => (simp only [go_sem, *] <;> rfl)); all_goals (intro hg; (try simp only [Bool.not_true, Bool.not_false, reduceCtorEq] at hg)))
 | refine Awp.seq ?_
 | (apply sl_a; (case hc => rfl); (case he => (simp only [go_sem, *] <;> rfl)); (case hu => (simp only [updL_nil, updL_cons] <;> rfl)); (case hl => (simp only [List.map_cons, List.map_nil] <;> rfl)); (case hp => first | trivial | omega))
 | (refine sl_nil (And.intro (by first | exact drawOk_of (by decide +kernel) | (simp only [List.map_cons, List.map_nil]; exact drawOk_of (by decide +kernel)) | decide) ?_)))
      refine ⟨i + 1, by omega, by omega, ?_⟩
      (apply Ghost.mk [] []; (case hdead => rfl); (case hinj => rfl); (case hV => (simp only [go_sem, *]) <;> (repeat' (first | exact View.int (by first | rfl | omega | (simp; done) | (rw [wrap_i64] <;> (try simp only [Int.natCast_add]) <;> omega) | (simp [*]; done))))); (case hB => (simp only [go_sem, *]) <;> (repeat' (first | skip; done))))
    · have hlt' : ¬ (i : Int) < a.length := by omega
      repeat' (first
 | (apply Awp.sreg; (case hn => (simp only [List.length_cons, List.length_nil, Nat.reduceAdd] <;> rfl)))
 | (refine st_nil ?_)
 | (apply st_a; (case hc => rfl); (case he => (simp only [go_sem, *] <;> rfl)); (case hu => (simp only [updL_nil, updL_cons] <;> rfl)); (case hp => first | trivial))
 | (refine Awp.ret ?_; try simp only [go_sem, *])
 | (refine Awp.exit ?_; try simp only [go_sem, *])
 | (apply Awp.cond; (case hc => (simp only [go_sem, *] <;> rfl)); all_goals (intro hg; (try simp only [Bool.not_true, Bool.not_false, reduceCtorEq] at hg); (try have hg' := hg); (try simp only [decide_eq_true_eq, decide_eq_false_iff_not, Bool.and_eq_true, Bool.or_eq_false_iff, bne_iff_ne, bne_eq_false_iff_eq, beq_iff_eq, beq_eq_false_iff_ne, Int.not_lt, Int.not_le, Int.ofNat_lt, Int.ofNat_le, Int.natCast_inj] at hg')))
 | refine Awp.seq ?_)
      all_goals repeat' (first | exact Lower.bool (by first | rfl | (simp only [true_and, Bool.true_and, Bool.false_and, Bool.and_true, Bool.and_false, Bool.true_or, Bool.false_or, reduceIte, Bool.false_eq_true, *]; done) | (simp only [true_and, reduceIte, Bool.false_eq_true, *] <;> rfl) | (simp [true_and]; done) | (simp_all [true_and]; done) | omega))
def bigBy (q : By) : Bool := decide ((100 : Int) < q.nm.size)
def bigSty (q : Sty) : Bool := decide ((100 : Int) < q.item.size) || decide ((100 : Int) < q.bay.size)
def fewB (bs : List By) (l : List Sty) (m : Int) : Bool := !(decide ((9 : Int) < bs.length) || decide (m < l.length)) && !bs.any bigBy && !l.any bigSty
theorem few_ok (bs : List By) (l : List Sty) (m : Int) (hm : m < 1000) : Pure Tryz.prog 10 [.sl (bys bs), .sl (stys l), .v (.int .i64 m)] (.v (.bool (fewB bs l m))) := by
  unfold fewB
  cases h0 : (decide ((9 : Int) < bs.length) || decide (m < l.length))
  case true =>
    refine fn_pure Tryz.F10 (Nat.le_of_ble_eq_true rfl) ?_; unfold Tryz.ac10 AR AM AO
    repeat' (first
 | (apply Awp.sreg; (case hn => (simp only [List.length_cons, List.length_nil, Nat.reduceAdd] <;> rfl)))
 | (refine st_nil ?_)
 | (apply st_a; (case hc => rfl); (case he => (simp only [go_sem, *] <;> rfl)); (case hu => (simp only [updL_nil, updL_cons] <;> rfl)); (case hp => first | trivial))
 | (apply st_m; (case hc => rfl); (case hg => (simp only [go_sem, *] <;> rfl)); (case he => (intro hQz; (try simp only [wantB_t, wantB_f, Bool.and_eq_true, Bool.not_eq_true', Bool.not_true, Bool.not_false, and_true, true_and] at hQz); simp only [go_sem, *] <;> rfl)); (case hp => (intro hQz; (try simp only [wantB_t, wantB_f, Bool.and_eq_true, Bool.not_eq_true', Bool.or_eq_false_iff, decide_eq_true_eq, decide_eq_false_iff_not, beq_iff_eq, beq_eq_false_iff_ne, bne_iff_ne, bne_eq_false_iff_eq, Int.not_lt, Int.not_le, Int.ofNat_lt, Int.ofNat_le] at hQz); first | trivial)))
 | (refine Awp.ret ?_; try simp only [go_sem, *])
 | (apply Awp.cond; (case hc => (simp only [go_sem, *] <;> rfl)); all_goals (intro hg; (try simp only [Bool.not_true, Bool.not_false, reduceCtorEq] at hg)))
 | refine Awp.seq ?_)
    all_goals repeat' (first | exact Lower.bool (by first | rfl | (simp only [true_and, Bool.true_and, Bool.false_and, Bool.and_true, Bool.and_false, Bool.true_or, Bool.false_or, reduceIte, Bool.false_eq_true, *]; done) | (simp only [true_and, reduceIte, Bool.false_eq_true, *] <;> rfl) | (simp [true_and]; done) | (simp_all [true_and]; done) | omega))
  have h9 : bs.length ≤ 9 ∧ (l.length : Int) ≤ m := by
    simp only [Bool.or_eq_false_iff, decide_eq_false_iff_not] at h0
    omega
  refine fn_pure Tryz.F10 (Nat.le_of_ble_eq_true rfl) ?_; unfold Tryz.ac10 AR AM AO
  repeat' (first
 | (apply Awp.sreg; (case hn => (simp only [List.length_cons, List.length_nil, Nat.reduceAdd] <;> rfl)))
 | (refine st_nil ?_)
 | (apply st_a; (case hc => rfl); (case he => (simp only [go_sem, *] <;> rfl)); (case hu => (simp only [updL_nil, updL_cons] <;> rfl)); (case hp => first | trivial))
 | (apply st_m; (case hc => rfl); (case hg => (simp only [go_sem, *] <;> rfl)); (case he => (intro hQz; (try simp only [wantB_t, wantB_f, Bool.and_eq_true, Bool.not_eq_true', Bool.not_true, Bool.not_false, and_true, true_and] at hQz); simp only [go_sem, *] <;> rfl)); (case hp => (intro hQz; (try simp only [wantB_t, wantB_f, Bool.and_eq_true, Bool.not_eq_true', Bool.or_eq_false_iff, decide_eq_true_eq, decide_eq_false_iff_not, beq_iff_eq, beq_eq_false_iff_ne, bne_iff_ne, bne_eq_false_iff_eq, Int.not_lt, Int.not_le, Int.ofNat_lt, Int.ofNat_le] at hQz); first | trivial)))
 | (refine Awp.skip ?_; try simp only [go_sem, *])
 | refine Awp.block ?_
 | (apply Awp.cond; (case hc => (simp only [go_sem, *] <;> rfl)); all_goals (intro hg; (try simp only [Bool.not_true, Bool.not_false, reduceCtorEq] at hg)))
 | refine Awp.seq ?_)
  clear h0
  refine Awp.loop (fun i : Nat => i ≤ bs.length ∧ ∀ j, j < i → bigBy (bs.getD j zeroBy) = false) 60 (fun i => mkS [(0, .sl (bys bs)), (1, .sl (stys l)), (7, .v (.int .i64 i))] []) (fun i => bs.length - i) 0 (by simp) ?_ ?_
  · (apply Ghost.mk [] []; (case hdead => rfl); (case hinj => rfl); (case hV => (simp only [go_sem, *]) <;> (repeat' (first | exact View.int (by first | rfl | omega | (simp; done) | (rw [wrap_i64] <;> (try simp only [Int.natCast_add]) <;> omega) | (simp [*]; done))))); (case hB => (simp only [go_sem, *]) <;> (repeat' (first | skip; done))))
  · intro i ⟨hi, hj⟩
    by_cases hlt : i < bs.length
    · have hlt' : (i : Int) < bs.length := by omega
      have hat := bys_at bs i hlt
      have hz : ((bs.getD i zeroBy).cells).length = 3 := rfl
      cases hB : bigBy (bs.getD i zeroBy)
      · have hB' := hB
        unfold bigBy at hB'
        repeat' (first
 | (apply Awp.sreg; (case hn => (simp only [List.length_cons, List.length_nil, Nat.reduceAdd] <;> rfl)))
 | (refine st_nil ?_)
 | (apply st_a; (case hc => rfl); (case he => (simp only [go_sem, *] <;> rfl)); (case hu => (simp only [updL_nil, updL_cons] <;> rfl)); (case hp => first | trivial | omega))
 | (apply Awp.reg; (case hn => (simp only [List.length_cons, List.length_nil, Nat.reduceAdd] <;> rfl)))
 | (refine Awp.skip ?_; try simp only [go_sem, *])
 | refine Awp.block ?_
 | (apply Awp.cond; (case hc => (simp only [go_sem, *] <;> rfl)); all_goals (intro hg; (try simp only [Bool.not_true, Bool.not_false, reduceCtorEq] at hg)))
 | refine Awp.seq ?_)
        refine ⟨i + 1, ⟨by omega, ltSucc hj hB⟩, by omega, ?_⟩
        (apply Ghost.mk [] []; (case hdead => rfl); (case hinj => rfl); (case hV => (simp only [go_sem, *]) <;> (repeat' (first | exact View.int (by first | rfl | omega | (simp; done) | (rw [wrap_i64] <;> (try simp only [Int.natCast_add]) <;> omega) | (simp [*]; done))))); (case hB => (simp only [go_sem, *]) <;> (repeat' (first | skip; done))))
      · have han := any_in (d := zeroBy) hlt hB
        unfold bigBy at hB
        repeat' (first
 | (apply Awp.sreg; (case hn => (simp only [List.length_cons, List.length_nil, Nat.reduceAdd] <;> rfl)))
 | (refine st_nil ?_)
 | (apply st_a; (case hc => rfl); (case he => (simp only [go_sem, *] <;> rfl)); (case hu => (simp only [updL_nil, updL_cons] <;> rfl)); (case hp => first | trivial | omega))
 | (refine Awp.ret ?_; try simp only [go_sem, *])
 | (refine Awp.skip ?_; try simp only [go_sem, *])
 | refine Awp.block ?_
 | (apply Awp.cond; (case hc => (simp only [go_sem, *] <;> rfl)); all_goals (intro hg; (try simp only [Bool.not_true, Bool.not_false, reduceCtorEq] at hg)))
 | refine Awp.seq ?_)
        all_goals repeat' (first | exact Lower.bool (by first | rfl | (simp only [true_and, Bool.true_and, Bool.false_and, Bool.and_true, Bool.and_false, Bool.true_or, Bool.false_or, reduceIte, Bool.false_eq_true, *]; done) | (simp only [true_and, reduceIte, Bool.false_eq_true, *] <;> rfl) | (simp [true_and]; done) | (simp_all [true_and]; done) | omega))
    · have hlt' : ¬ (i : Int) < bs.length := by omega
      have han := any_end (d := zeroBy) (Nat.le_of_not_lt hlt) hj
      rw [han]
      clear hj
      repeat' (first
 | (apply Awp.sreg; (case hn => (simp only [List.length_cons, List.length_nil, Nat.reduceAdd] <;> rfl)))
 | (refine st_nil ?_)
 | (apply st_a; (case hc => rfl); (case he => (simp only [go_sem, *] <;> rfl)); (case hu => (simp only [updL_nil, updL_cons] <;> rfl)); (case hp => first | trivial))
 | (refine Awp.exit ?_; try simp only [go_sem, *])
 | refine Awp.block ?_
 | (apply Awp.cond; (case hc => (simp only [go_sem, *] <;> rfl)); all_goals (intro hg; (try simp only [Bool.not_true, Bool.not_false, reduceCtorEq] at hg)))
 | refine Awp.seq ?_)
      clear hlt hlt' hi han
      refine Awp.loop (fun i : Nat => i ≤ l.length ∧ ∀ j, j < i → bigSty (l.getD j zeroSty) = false) 100 (fun i => mkS [(1, .sl (stys l)), (8, .v (.int .i64 i))] []) (fun i => l.length - i) 0 (by simp) ?_ ?_
      · (apply Ghost.mk [] []; (case hdead => rfl); (case hinj => rfl); (case hV => (simp only [go_sem, *]) <;> (repeat' (first | exact View.int (by first | rfl | omega | (simp; done) | (rw [wrap_i64] <;> (try simp only [Int.natCast_add]) <;> omega) | (simp [*]; done))))); (case hB => (simp only [go_sem, *]) <;> (repeat' (first | skip; done))))
      · intro i ⟨hi, hj⟩
        by_cases hlt : i < l.length
        · have hlt' : (i : Int) < l.length := by omega
          have hat := stys_at l i hlt
          have hz : ((l.getD i zeroSty).cells).length = 8 := rfl
          cases hB : bigSty (l.getD i zeroSty)
          · have hB' := hB
            unfold bigSty at hB'
            repeat' (first
 | (apply Awp.sreg; (case hn => (simp only [List.length_cons, List.length_nil, Nat.reduceAdd] <;> rfl)))
 | (refine st_nil ?_)
 | (apply st_a; (case hc => rfl); (case he => (simp only [go_sem, *] <;> rfl)); (case hu => (simp only [updL_nil, updL_cons] <;> rfl)); (case hp => first | trivial | omega))
 | (apply st_m; (case hc => rfl); (case hg => (simp only [go_sem, *] <;> rfl)); (case he => (intro hQz; (try simp only [wantB_t, wantB_f, Bool.and_eq_true, Bool.not_eq_true', Bool.not_true, Bool.not_false, and_true, true_and] at hQz); simp only [go_sem, *] <;> rfl)); (case hp => (intro hQz; (try simp only [wantB_t, wantB_f, Bool.and_eq_true, Bool.not_eq_true', Bool.or_eq_false_iff, decide_eq_true_eq, decide_eq_false_iff_not, beq_iff_eq, beq_eq_false_iff_ne, bne_iff_ne, bne_eq_false_iff_eq, Int.not_lt, Int.not_le, Int.ofNat_lt, Int.ofNat_le] at hQz); first | trivial | omega)))
 | (apply Awp.reg; (case hn => (simp only [List.length_cons, List.length_nil, Nat.reduceAdd] <;> rfl)))
 | (refine Awp.skip ?_; try simp only [go_sem, *])
 | refine Awp.block ?_
 | (apply Awp.cond; (case hc => (simp only [go_sem, *] <;> rfl)); all_goals (intro hg; (try simp only [Bool.not_true, Bool.not_false, reduceCtorEq] at hg)))
 | refine Awp.seq ?_)
            refine ⟨i + 1, ⟨by omega, ltSucc hj hB⟩, by omega, ?_⟩
            (apply Ghost.mk [] []; (case hdead => rfl); (case hinj => rfl); (case hV => (simp only [go_sem, *]) <;> (repeat' (first | exact View.int (by first | rfl | omega | (simp; done) | (rw [wrap_i64] <;> (try simp only [Int.natCast_add]) <;> omega) | (simp [*]; done))))); (case hB => (simp only [go_sem, *]) <;> (repeat' (first | skip; done))))
          · have han := any_in (d := zeroSty) hlt hB
            unfold bigSty at hB
            repeat' (first
 | (apply Awp.sreg; (case hn => (simp only [List.length_cons, List.length_nil, Nat.reduceAdd] <;> rfl)))
 | (refine st_nil ?_)
 | (apply st_a; (case hc => rfl); (case he => (simp only [go_sem, *] <;> rfl)); (case hu => (simp only [updL_nil, updL_cons] <;> rfl)); (case hp => first | trivial | omega))
 | (apply st_m; (case hc => rfl); (case hg => (simp only [go_sem, *] <;> rfl)); (case he => (intro hQz; (try simp only [wantB_t, wantB_f, Bool.and_eq_true, Bool.not_eq_true', Bool.not_true, Bool.not_false, and_true, true_and] at hQz); simp only [go_sem, *] <;> rfl)); (case hp => (intro hQz; (try simp only [wantB_t, wantB_f, Bool.and_eq_true, Bool.not_eq_true', Bool.or_eq_false_iff, decide_eq_true_eq, decide_eq_false_iff_not, beq_iff_eq, beq_eq_false_iff_ne, bne_iff_ne, bne_eq_false_iff_eq, Int.not_lt, Int.not_le, Int.ofNat_lt, Int.ofNat_le] at hQz); first | trivial | omega)))
 | (refine Awp.ret ?_; try simp only [go_sem, *])
 | (refine Awp.skip ?_; try simp only [go_sem, *])
 | refine Awp.block ?_
 | (apply Awp.cond; (case hc => (simp only [go_sem, *] <;> rfl)); all_goals (intro hg; (try simp only [Bool.not_true, Bool.not_false, reduceCtorEq] at hg)))
 | refine Awp.seq ?_)
            all_goals repeat' (first | exact Lower.bool (by first | rfl | (simp only [true_and, Bool.true_and, Bool.false_and, Bool.and_true, Bool.and_false, Bool.true_or, Bool.false_or, reduceIte, Bool.false_eq_true, *]; done) | (simp only [true_and, reduceIte, Bool.false_eq_true, *] <;> rfl) | (simp [true_and]; done) | (simp_all [true_and]; done) | omega))
        · have hlt' : ¬ (i : Int) < l.length := by omega
          have han := any_end (d := zeroSty) (Nat.le_of_not_lt hlt) hj
          repeat' (first
 | (apply Awp.sreg; (case hn => (simp only [List.length_cons, List.length_nil, Nat.reduceAdd] <;> rfl)))
 | (refine st_nil ?_)
 | (apply st_a; (case hc => rfl); (case he => (simp only [go_sem, *] <;> rfl)); (case hu => (simp only [updL_nil, updL_cons] <;> rfl)); (case hp => first | trivial))
 | (refine Awp.ret ?_; try simp only [go_sem, *])
 | (refine Awp.exit ?_; try simp only [go_sem, *])
 | (apply Awp.cond; (case hc => (simp only [go_sem, *] <;> rfl)); all_goals (intro hg; (try simp only [Bool.not_true, Bool.not_false, reduceCtorEq] at hg)))
 | refine Awp.seq ?_)
          all_goals repeat' (first | exact Lower.bool (by first | rfl | (simp only [true_and, Bool.true_and, Bool.false_and, Bool.and_true, Bool.and_false, Bool.true_or, Bool.false_or, reduceIte, Bool.false_eq_true, *]; done) | (simp only [true_and, reduceIte, Bool.false_eq_true, *] <;> rfl) | (simp [true_and]; done) | (simp_all [true_and]; done) | omega))
theorem few_get {bs : List By} {l : List Sty} {m : Int} (h : fewB bs l m = true) : bs.length ≤ 9 ∧ (l.length : Int) ≤ m ∧ ∀ i, i < l.length → (l.getD i zeroSty).item.size ≤ 100 := by
  unfold fewB at h
  simp only [Bool.and_eq_true, Bool.not_eq_true', Bool.or_eq_false_iff, decide_eq_false_iff_not] at h
  refine ⟨by omega, by omega, fun i hi => ?_⟩
  have h2 := h.2
  rw [List.any_eq_false] at h2
  have := h2 _ (List.getElem_mem hi)
  unfold bigSty at this
  simp only [Bool.or_eq_true, decide_eq_true_eq] at this
  have e : l.getD i zeroSty = l[i] := by simp [List.getD_eq_getElem?_getD, hi]
  rw [e]
  omega
theorem delC_ok (nm : ByteArray) (x : Sty) : Pure Tryz.prog 48 [x.av, .rp [.v (.string nm)]] (.v (.bool (hullB nm x))) := by
  refine fn_pure Tryz.F48 (Nat.le_of_ble_eq_true rfl) ?_; unfold Tryz.ac48 AR AM AO
  repeat' (first
 | (apply Awp.sreg; (case hn => (simp only [List.length_cons, List.length_nil, Nat.reduceAdd] <;> rfl)))
 | (refine st_nil ?_)
 | (apply st_a; (case hc => rfl); (case he => (simp only [go_sem, *] <;> rfl)); (case hu => (simp only [updL_nil, updL_cons] <;> rfl)); (case hp => first | trivial))
 | (refine Awp.ret ?_; try simp only [go_sem, *]))
  all_goals repeat' (first | exact Lower.bool (by first | rfl | (simp only [hullB, Bool.true_and, Bool.false_and, Bool.and_true, Bool.and_false, Bool.true_or, Bool.false_or, reduceIte, Bool.false_eq_true, *]; done) | (simp only [hullB, reduceIte, Bool.false_eq_true, *] <;> rfl) | (simp [hullB]; done) | (simp_all [hullB]; done) | omega))
def movB (z : Sty) (h : Int) (q : Sty) : Sty := if (q.bay.toList == z.bay.toList) && (q.b == z.b) then ⟨q.item, q.bay, q.x, q.y, q.len, q.wid, q.a, IntKind.i64.wrap (q.b + h)⟩ else q
def delayL (l : List Sty) (n : Nat) (h : Int) : List Sty := l.map (movB (l.getD n zeroSty) h)
theorem delayL_len (l : List Sty) (n : Nat) (h : Int) : (delayL l n h).length = l.length := by simp [delayL]
theorem delayL_at (l : List Sty) (n : Nat) (h : Int) (i : Nat) (hi : i < l.length) : (delayL l n h).getD i zeroSty = movB (l.getD n zeroSty) h (l.getD i zeroSty) := by
  simp [delayL, List.getD_eq_getElem?_getD, hi]
theorem stys_set (l : List Sty) (i : Nat) (x : Sty) : (stys l).set i x.cells = stys (l.set i x) := by simp [stys, List.map_set]
def mixL (D l : List Sty) (i : Nat) : List Sty := D.take i ++ l.drop i
theorem mix_len (D l : List Sty) (i : Nat) (h : D.length = l.length) (hi : i ≤ l.length) : (mixL D l i).length = l.length := by simp [mixL]; omega
theorem mix_at (D l : List Sty) (i : Nat) (h : D.length = l.length) (hi : i < l.length) : (mixL D l i).getD i zeroSty = l.getD i zeroSty := by
  unfold mixL
  rw [List.getD_eq_getElem?_getD, List.getElem?_append_right (by simp; omega), List.getElem?_drop, List.getD_eq_getElem?_getD]
  congr 2
  simp; omega
theorem mix_step (D l : List Sty) (i : Nat) (h : D.length = l.length) (hi : i < l.length) : mixL D l (i + 1) = (mixL D l i).set i (D.getD i zeroSty) := by
  unfold mixL
  have hl : (D.take i).length = i := by simp; omega
  rw [take_snoc D zeroSty i (by omega), List.set_append, if_neg (by omega), hl, Nat.sub_self, List.drop_eq_getElem_cons hi, List.set_cons_zero]
  simp
theorem mix_same (D l : List Sty) (i : Nat) (h : D.length = l.length) (hi : i < l.length) (e : D.getD i zeroSty = l.getD i zeroSty) : mixL D l (i + 1) = mixL D l i := by
  rw [mix_step D l i h hi, e]
  refine List.ext_getElem? fun k => ?_
  rw [List.getElem?_set]
  split
  · rename_i hk
    subst hk
    have hm := mix_at D l i h hi
    have hl := mix_len D l i h (by omega)
    rw [List.getD_eq_getElem?_getD, List.getElem?_eq_getElem (by omega), Option.getD_some] at hm
    rw [if_pos (by omega), List.getElem?_eq_getElem (by omega), hm]
  · rfl
end Go.Proofs
namespace Go.Proofs
open Go.Shelf
def Tryz.sortIv_ren : Go.Shelf.Ren := ⟨fun | 6 => 103 | 15 => 56 | 14 => 112 | 28 => 84 | 29 => 85 | 20 => 117 | 21 => 118 | 22 => 119 | 23 => 120 | 24 => 121 | 25 => 122 | 26 => 123 | 27 => 124 | 46 => 130 | 47 => 95 | 48 => 96 | 49 => 131 | 50 => 132 | 57 => 135 | n => n, fun | 22 => 35 | 24 => 30 | 25 => 127 | 3 => 3 | 39 => 83 | 0 => 0 | 53 => 108 | 55 => 110 | 4 => 4 | 46 => 100 | 45 => 99 | 50 => 105 | 5 => 5 | 9 => 9 | 66 => 117 | 70 => 121 | 76 => 132 | 77 => 133 | n => n, fun | n => n⟩
theorem Tryz.sortIv : Go.Proofs.SlLaysF0.n6 Tryz.prog Tryz.sortIv_ren := {
  mixed := by kernel_rfl
  f6 := ⟨Tryz.f103.name, by decide, Tryz.func103.trans (congrArg some (by kernel_rfl))⟩
  f14 := ⟨Tryz.f112.name, by decide, Tryz.func112.trans (congrArg some (by kernel_rfl))⟩
  f15 := Tryz.func56.trans (congrArg some (by kernel_rfl))
  f20 := ⟨Tryz.f117.name, by decide, Tryz.func117.trans (congrArg some (by kernel_rfl))⟩
  f21 := ⟨Tryz.f118.name, by decide, Tryz.func118.trans (congrArg some (by kernel_rfl))⟩
  f22 := ⟨Tryz.f119.name, by decide, Tryz.func119.trans (congrArg some (by kernel_rfl))⟩
  f23 := ⟨Tryz.f120.name, by decide, Tryz.func120.trans (congrArg some (by kernel_rfl))⟩
  f24 := ⟨Tryz.f121.name, by decide, Tryz.func121.trans (congrArg some (by kernel_rfl))⟩
  f25 := ⟨Tryz.f122.name, by decide, Tryz.func122.trans (congrArg some (by kernel_rfl))⟩
  f26 := ⟨Tryz.f123.name, by decide, Tryz.func123.trans (congrArg some (by kernel_rfl))⟩
  f27 := ⟨Tryz.f124.name, by decide, Tryz.func124.trans (congrArg some (by kernel_rfl))⟩
  f28 := Tryz.func84.trans (congrArg some (by kernel_rfl))
  f29 := Tryz.func85.trans (congrArg some (by kernel_rfl))
  f46 := ⟨Tryz.f130.name, by decide, Tryz.func130.trans (congrArg some (by kernel_rfl))⟩
  f47 := Tryz.func95.trans (congrArg some (by kernel_rfl))
  f48 := Tryz.func96.trans (congrArg some (by kernel_rfl))
  f49 := ⟨Tryz.f131.name, by decide, Tryz.func131.trans (congrArg some (by kernel_rfl))⟩
  f50 := ⟨Tryz.f132.name, by decide, Tryz.func132.trans (congrArg some (by kernel_rfl))⟩
  f57 := ⟨Tryz.f135.name, by decide, Tryz.func135.trans (congrArg some (by kernel_rfl))⟩
  t0 := Tryz.underlying0
  a0 := Tryz.isAgg0
  z0 := Tryz.sizeOf0
  v0 := Tryz.zeroValue0
  t3 := Tryz.underlying3
  a3 := Tryz.isAgg3
  z3 := Tryz.sizeOf3
  v3 := Tryz.zeroValue3
  t4 := Tryz.underlying4
  a4 := Tryz.isAgg4
  z4 := Tryz.sizeOf4
  v4 := Tryz.zeroValue4
  t5 := Tryz.underlying5
  a5 := Tryz.isAgg5
  z5 := Tryz.sizeOf5
  v5 := Tryz.zeroValue5
  t9 := Tryz.underlying9
  a9 := Tryz.isAgg9
  z9 := Tryz.sizeOf9
  v9 := Tryz.zeroValue9
  t22 := Tryz.underlying35
  a22 := Tryz.isAgg35
  z22 := Tryz.sizeOf35
  v22 := Tryz.zeroValue35
  t25 := Tryz.underlying127
  a25 := Tryz.isAgg127
  z25 := Tryz.sizeOf127
  v25 := Tryz.zeroValue127
  t39 := Tryz.underlying83
  a39 := Tryz.isAgg83
  z39 := Tryz.sizeOf83
  v39 := Tryz.zeroValue83
  t45 := Tryz.underlying99
  a45 := Tryz.isAgg99
  z45 := Tryz.sizeOf99
  v45 := Tryz.zeroValue99
  t46 := Tryz.underlying100
  a46 := Tryz.isAgg100
  z46 := Tryz.sizeOf100
  v46 := Tryz.zeroValue100
  t50 := Tryz.underlying105
  a50 := Tryz.isAgg105
  z50 := Tryz.sizeOf105
  v50 := Tryz.zeroValue105
  t53 := Tryz.underlying108
  a53 := Tryz.isAgg108
  z53 := Tryz.sizeOf108
  v53 := Tryz.zeroValue108
  t55 := Tryz.underlying110
  a55 := Tryz.isAgg110
  z55 := Tryz.sizeOf110
  v55 := Tryz.zeroValue110
  t66 := Tryz.underlying117
  a66 := Tryz.isAgg117
  z66 := Tryz.sizeOf117
  v66 := Tryz.zeroValue117
  t70 := Tryz.underlying121
  a70 := Tryz.isAgg121
  z70 := Tryz.sizeOf121
  v70 := Tryz.zeroValue121
  t76 := Tryz.underlying132
  a76 := Tryz.isAgg132
  z76 := Tryz.sizeOf132
  v76 := Tryz.zeroValue132
  t77 := Tryz.underlying133
  a77 := Tryz.isAgg133
  z77 := Tryz.sizeOf133
  v77 := Tryz.zeroValue133 }
def Tryz.cmpInt_ren : Go.Shelf.Ren := ⟨fun | 5 => 105 | 7 => 99 | n => n, fun | 22 => 3 | 3 => 3 | 4 => 4 | n => n, fun | n => n⟩
theorem Tryz.cmpInt : Go.Proofs.SlLaysC2.n5 Tryz.prog Tryz.cmpInt_ren := {
  mixed := by kernel_rfl
  f5 := ⟨Tryz.f105.name, by decide, Tryz.func105.trans (congrArg some (by kernel_rfl))⟩
  f7 := ⟨Tryz.f99.name, by decide, Tryz.func99.trans (congrArg some (by kernel_rfl))⟩
  t3 := Tryz.underlying3
  a3 := Tryz.isAgg3
  z3 := Tryz.sizeOf3
  v3 := Tryz.zeroValue3
  t4 := Tryz.underlying4
  a4 := Tryz.isAgg4
  z4 := Tryz.sizeOf4
  v4 := Tryz.zeroValue4
  t22 := Tryz.underlying3
  a22 := Tryz.isAgg3
  z22 := Tryz.sizeOf3
  v22 := Tryz.zeroValue3 }
def Tryz.cloneSp_ren : Go.Shelf.Ren := ⟨fun | 41 => 101 | n => n, fun | 22 => 35 | 23 => 30 | 4 => 4 | n => n, fun | n => n⟩
theorem Tryz.cloneSp : Go.Proofs.SlLaysE0.n41 Tryz.prog Tryz.cloneSp_ren := {
  mixed := by kernel_rfl
  f41 := ⟨Tryz.f101.name, by decide, Tryz.func101.trans (congrArg some (by kernel_rfl))⟩
  t4 := Tryz.underlying4
  a4 := Tryz.isAgg4
  z4 := Tryz.sizeOf4
  v4 := Tryz.zeroValue4
  t22 := Tryz.underlying35
  a22 := Tryz.isAgg35
  z22 := Tryz.sizeOf35
  v22 := Tryz.zeroValue35 }
def Tryz.growSp_ren : Go.Shelf.Ren := ⟨fun | 4 => 106 | n => n, fun | 22 => 35 | 25 => 30 | 3 => 3 | 4 => 4 | 9 => 9 | 20 => 20 | 0 => 0 | 2 => 3 | n => n, fun | n => n⟩
theorem Tryz.growSp : Go.Proofs.Lays8.n4 Tryz.prog Tryz.growSp_ren := {
  mixed := by kernel_rfl
  f4 := ⟨Tryz.f106.name, by decide, Tryz.func106.trans (congrArg some (by kernel_rfl))⟩
  t0 := Tryz.underlying0
  a0 := Tryz.isAgg0
  z0 := Tryz.sizeOf0
  v0 := Tryz.zeroValue0
  t3 := Tryz.underlying3
  a3 := Tryz.isAgg3
  z3 := Tryz.sizeOf3
  v3 := Tryz.zeroValue3
  t4 := Tryz.underlying4
  a4 := Tryz.isAgg4
  z4 := Tryz.sizeOf4
  v4 := Tryz.zeroValue4
  t9 := Tryz.underlying9
  a9 := Tryz.isAgg9
  z9 := Tryz.sizeOf9
  v9 := Tryz.zeroValue9
  t20 := Tryz.underlying20
  a20 := Tryz.isAgg20
  z20 := Tryz.sizeOf20
  v20 := Tryz.zeroValue20
  t22 := Tryz.underlying35
  a22 := Tryz.isAgg35
  z22 := Tryz.sizeOf35
  v22 := Tryz.zeroValue35 }
end Go.Proofs
namespace Go.Ab
open Go.Shelf Go.RowKit Go.Lib Go.Proofs
set_option maxRecDepth 10000
theorem grow_cc {P : Program} {ρ : Ren} (L : Lays8.n4 P ρ) (hcall : Callable P (ρ.f 4)) (i0 : TypeInfo) (z : Value) (hi0 : P.info? (ρ.t 25) = some i0) (hz0 : i0.zero = some z) (hs0 : 0 < i0.size) (hzs : z.cells.size = i0.size) (hb1 : i0.bytes ≤ 1000)
    (n : Nat) (hn : n < 1000000) (nm : Nat) : CallC P (ρ.f 4) [.nils, .v (.int .i64 n)] [] nm (.own nm) [(nm, some (.row [] i0.size (ρ.t 25)))] := by
  refine ⟨hcall, fun prov β w cs hnm hb hi hv => ?_⟩
  obtain ⟨hlen, hv⟩ := hv
  match cs, hlen with
  | [c, c2], _ =>
  have h1 := hv 0 (by simp)
  have h2 := hv 1 (by simp)
  simp only [av_zero, cv, List.getD_cons_zero] at h1
  obtain ⟨a, rfl⟩ := SimV.nils_inv h1
  have hc2 : c2 = .int .i64 n := SimV.v_inv (x := .int .i64 n) h2
  subst hc2
  have hlk : ∀ k, updL (listH []) [(nm, some (Blk.row [] i0.size (ρ.t 25)))] k = if k = nm then some (.row [] i0.size (ρ.t 25)) else none := by
    intro k; simp only [updL, upd, listH]
  have hgr : ∀ c', Grows β (upd β nm c') := fun c' k hk => by
    unfold upd; split
    · rename_i h; subst h; exact absurd hnm hk
    · rfl
  have tail : ∀ w' ad cap, w.grownBy w' none → RowRep w' (ρ.t 25) i0.size (.slice ad 0 cap) 0 [] → (∀ g, blkOf (.slice ad 0 cap) = some g → w.heap.size ≤ g) →
      ∃ c β', Ending.returned (Value.slice ad 0 cap) = .returned c ∧ w'.os = w.os ∧ w'.tape = w.tape ∧ w'.output = w.output ∧ w.heap.size ≤ w'.heap.size ∧ Grows β β' ∧ (∀ n, n ≠ nm → β' n = β n) ∧
      (∀ g, g < w.heap.size → (∀ n b', listH [] n = some b' → n ∈ [(nm, some (Blk.row [] i0.size (ρ.t 25)))].map (·.1) → blkOf (β n) ≠ some g) → w'.heap[g]? = w.heap[g]?) ∧
      SimV (stb (fun g => prov g ∨ w.heap.size ≤ g) w' β' (updL (listH []) [(nm, some (Blk.row [] i0.size (ρ.t 25)))])) β' w' (.own nm) c ∧
      (∀ n b', updL (listH []) [(nm, some (Blk.row [] i0.size (ρ.t 25)))] n = some b' → n ∈ [(nm, some (Blk.row [] i0.size (ρ.t 25)))].map (·.1) → BlkRep (stb (fun g => prov g ∨ w.heap.size ≤ g) w' β' (updL (listH []) [(nm, some (Blk.row [] i0.size (ρ.t 25)))])) β' w' b' (β' n) ∧
        ∀ g, blkOf (β' n) = some g → w.heap.size ≤ g ∨ ∃ m b', listH [] m = some b' ∧ m ∈ [(nm, some (Blk.row [] i0.size (ρ.t 25)))].map (·.1) ∧ blkOf (β m) = some g) ∧
      Inj β' (updL (listH []) [(nm, some (Blk.row [] i0.size (ρ.t 25)))]) := by
    intro w' ad cap hg hr hnew
    refine ⟨_, upd β nm (.slice ad 0 cap), rfl, hg.os, hg.tape, hg.output, hg.size, hgr _, fun k hne => by simp [upd, hne], fun g hgl _ => hg.block g hgl (by simp), .own nm (by simp [upd]), fun k b' hb' _ => ?_, ?_⟩
    · rw [hlk] at hb'
      split at hb'
      · rename_i hk; subst hk
        simp only [Option.some.injEq] at hb'; subst hb'
        have hu : upd β k (Value.slice ad 0 cap) k = .slice ad 0 cap := by simp [upd]
        rw [hu]
        exact ⟨⟨[], by simp, hs0, hr, by simp, fun i j hi => by simp at hi⟩, fun g hgb => .inl (hnew g hgb)⟩
      · cases hb'
    · intro k m b1 b2 g h1 h2 _ _
      rw [hlk] at h1 h2
      split at h1
      · split at h2
        · simp_all
        · cases h2
      · cases h1
  by_cases h0 : n = 0
  · subst h0
    refine (Any8.slices_Grow_room L a 0 0 0 w (by omega) (by omega) (by omega) (by omega)).mono fun e w' ⟨he, hw⟩ => ?_
    subst he; subst hw
    exact tail w' a 0 ⟨rfl, rfl, rfl, Nat.le_refl _, fun _ _ _ => rfl⟩ (.inl ⟨a, rfl, rfl, rfl⟩) (fun g hg => by cases a <;> simp [blkOf] at hg)
  · have hbig : (0 + n) * i0.bytes ≤ 140737488355328 := by
      rw [Nat.zero_add]
      exact Nat.le_trans (Nat.mul_le_mul (Nat.le_of_lt hn) hb1) (by omega)
    refine (Any8.slices_Grow_grow L i0 z hi0 hz0 hs0 a 0 0 n [] w (by omega) (by omega) hbig (by omega) (by rw [Nat.zero_mul]; rfl) (fun _ => rfl) (fun b _ j v hj => by rw [List.getElem?_nil] at hj; cases hj)).mono fun e w' ⟨he, hw⟩ => ?_
    subst he; subst hw
    have hcap := grownCap_ge w (0 + n) 0 (ρ.t 25)
    have hcm := grownCap_le_maxLen w (0 + n) 0 (ρ.t 25) (by unfold maxLen; omega)
    refine tail _ _ _ ?_ ?_ ?_
    · refine ⟨rfl, rfl, rfl, ?_, fun k hk _ => ?_⟩
      · show w.heap.size ≤ (w.heap.push _).size
        rw [Array.size_push]; omega
      · show (w.heap.push _)[k]? = w.heap[k]?
        rw [Array.getElem?_push, if_neg (by omega)]
    · refine RowRep.of_owns (base := 0) (And.intro (by simp) (Or.inr ⟨w.heap.size, grownCap w (0 + n) 0 (ρ.t 25), #[] ++ Builtin.zeroCells z.cells (0 + n - 0) ++ Builtin.zeroCells z.cells (grownCap w (0 + n) 0 (ρ.t 25) - (0 + n)), rfl, Nat.zero_le _, ?_, Nat.zero_le _, hcm, ?_, by simp⟩))
      · show (w.heap.push _)[w.heap.size]? = _
        rw [Array.getElem?_push, if_pos rfl]
      · have h1 := zero_len z.cells (0 + n - 0)
        have h2 := zero_len z.cells (grownCap w (0 + n) 0 (ρ.t 25) - (0 + n))
        simp only [Array.length_toList] at h1 h2
        simp only [Array.size_append, List.size_toArray, List.length_nil, h1, h2, hzs]
        rw [Nat.zero_add, ← Nat.add_mul]
        congr 1
        omega
    · intro g hg
      simp only [blkOf] at hg
      split at hg
      · cases hg
      · simp at hg; omega
end Go.Ab
namespace Go.Proofs
open Go Go.Ab
set_option maxRecDepth 100000
theorem grow52 (n : Nat) (hn : n < 1000000) (nm : Nat) : CallC Tryz.prog 106 [.nils, .v (.int .i64 n)] [] nm (.own nm) [(nm, some (.row [] 2 30))] := by
  obtain ⟨i0, hi⟩ : ∃ i0, Tryz.prog.info? 30 = some i0 := ⟨_, rfl⟩
  have h := grow_cc Tryz.growSp ⟨_, Tryz.func106, by kernel_rfl, by kernel_rfl⟩ _ _ (show Tryz.prog.info? (Tryz.growSp_ren.t 25) = some _ from rfl) rfl (by decide) rfl (by decide) n hn nm
  exact h
end Go.Proofs
namespace Go.Proofs
open Go Go.Ab
set_option maxHeartbeats 4000000
set_option maxRecDepth 100000
attribute [local irreducible] Awp aops aopsL Go.Ab.Pure PureOwn
def zrow : List AV := [.v (.int .i64 0), .v (.int .i64 0)]
def delRow (l : List Sp) : List (List AV) := sps (l.filter fullB) ++ List.replicate (l.length - (l.filter fullB).length) zrow
theorem full_not (s : Sp) : fullB s = !decide (s.b ≤ s.a) := by
  unfold fullB
  rw [Bool.eq_iff_iff]; simp
theorem filter_none {l : List Sp} (h : ∀ j, j < l.length → decide ((l.getD j zeroSp).b ≤ (l.getD j zeroSp).a) = false) : l.filter fullB = l := by
  rw [List.filter_eq_self]
  intro x hx
  obtain ⟨i, hi, rfl⟩ := List.getElem_of_mem hx
  have := h i hi
  rw [List.getD_eq_getElem?_getD, List.getElem?_eq_getElem hi] at this
  simp only [Option.getD_some] at this
  rw [full_not, this]; rfl
theorem idxF_some {α : Type} {p : α → Bool} {l : List α} (d : α) : (idxF p l = -1 ∧ ∀ j, j < l.length → p (l.getD j d) = false) ∨ ∃ i, i < l.length ∧ idxF p l = i ∧ p (l.getD i d) = true ∧ ∀ j, j < i → p (l.getD j d) = false := by
  have hg : ∀ j (hh : j < l.length), l.getD j d = l[j] := fun j hh => by simp [List.getD_eq_getElem?_getD, hh]
  unfold idxF
  by_cases h : l.findIdx p < l.length
  · right
    refine ⟨l.findIdx p, h, by rw [if_pos h], ?_, fun j hj => ?_⟩
    · rw [hg _ h]; exact List.findIdx_getElem (w := h)
    · rw [hg j (by omega)]
      have := List.not_of_lt_findIdx hj
      simpa using this
  · left
    refine ⟨by rw [if_neg h], fun j hj => ?_⟩
    rw [hg j hj]
    rw [Bool.eq_false_iff]
    intro hp
    exact h (List.findIdx_lt_length_of_exists ⟨_, List.getElem_mem hj, hp⟩)
def keepL (l : List Sp) (j : Nat) : List Sp := (l.take j).filter fullB
theorem take_snocS (l : List Sp) (i : Nat) (h : i < l.length) : l.take (i + 1) = l.take i ++ [l.getD i zeroSp] := by
  rw [List.take_add_one, List.getElem?_eq_getElem h]
  simp [List.getD_eq_getElem?_getD, h]
theorem keep_step (l : List Sp) (j : Nat) (h : j < l.length) : keepL l (j + 1) = keepL l j ++ (if fullB (l.getD j zeroSp) = true then [l.getD j zeroSp] else []) := by
  unfold keepL
  rw [take_snocS l j h, List.filter_append]
  congr 1
  by_cases hp : fullB (l.getD j zeroSp) = true
  · rw [if_pos hp, List.filter_cons_of_pos hp]; rfl
  · rw [if_neg hp, List.filter_cons_of_neg hp]; rfl
theorem drop_cons (l : List Sp) (j : Nat) (h : j < l.length) : l.drop j = l.getD j zeroSp :: l.drop (j + 1) := by
  rw [List.drop_eq_getElem_cons h]
  simp [List.getD_eq_getElem?_getD, h]
def dS (l : List Sp) (q : Nat × List Sp) : AState :=
  mkS [(0, .own 2), (1, .fn 102 []), (5, .v (.int .i64 (keepL l q.1).length)), (6, .v (.int .i64 q.1))] [(2, .row (sps (keepL l q.1 ++ q.2 ++ l.drop q.1)) 2 30)]
theorem del_cc (l : List Sp) (nm : Nat) (hl : l.length < 100000) (hnm : 3 ≤ nm) :
    CallC Tryz.prog 100 [.own 2, .fn 102 []] [(2, .row (sps l) 2 30)] nm (.pre 2 (l.filter fullB).length) [(2, some (.row (delRow l) 2 30))] := by
  have c0 := indexN_ok l 102 (fun s => decide (s.b ≤ s.a)) (by omega) empty_ok
  have hll := sps_len l
  rcases idxF_some (p := fun s : Sp => decide (s.b ≤ s.a)) (l := l) zeroSp with ⟨e, hall⟩ | ⟨i0, hi0, e, hp, hall⟩
  · have hf := filter_none hall
    have hd : delRow l = sps l := by unfold delRow; rw [hf]; simp
    rw [hd, hf]
    rw [e] at c0
    have key : CallC Tryz.prog 100 [.own 2, .fn 102 []] [(2, .row (sps l) 2 30)] nm (.own 2) [(2, some (.row (sps l) 2 30))] := by
      refine fn_cc Tryz.F100 (Nat.le_of_ble_eq_true rfl) (bs := 3) ?_ ?_ ?_ ?_ ?_ ?_ ?_
      · simp
      · simp; omega
      · simp
      · simp
      · simp only [List.map_cons, List.map_nil, List.mem_cons, List.not_mem_nil, or_false]
        rintro p rfl
        exact .row rfl
      · intro j hj
        match j, hj with
        | 0, _ => exact .own rfl (by simp)
        | 1, _ => exact .fn rfl fun j hj => by simp at hj
      · unfold Tryz.ac100 AR AM AO
        clear hd hf hall e
        have hav0 : av [AV.own 2, AV.fn 102 []] 0 = AV.own 2 := rfl
        have hav1 : av [AV.own 2, AV.fn 102 []] 1 = AV.fn 102 [] := rfl
        repeat' (first
 | (apply Awp.sreg; (case hn => (simp only [List.length_cons, List.length_nil, Nat.reduceAdd] <;> rfl)))
 | (refine st_nil ?_)
 | (apply st_a; (case hc => rfl); (case he => (simp only [go_sem, *] <;> rfl)); (case hu => (simp only [updL_nil, updL_cons] <;> rfl)); (case hp => first | trivial))
 | (apply st_cd; (case hc => (simp only [go_sem, *] <;> rfl)); (case hl => (simp only [go_sem, *] <;> rfl)); (case hn => (simp only [go_sem, *] <;> rfl)); (case hp => first | exact c0 | (have hXz := c0; simp only [go_sem, *] at hXz; exact hXz)); (case hd => first | exact .v _ | exact .any | exact .nils | (repeat' (first | exact Dry.v _ | exact Dry.any | exact Dry.nils | exact Dry.slE | refine Dry.agg ?_ | refine Dry.tup ?_ | (refine List.forall_mem_cons.2 (And.intro ?_ ?_)) | (intro cQ hQ; cases hQ; done)))); (case hm => first | decide | (simp; done)))
 | (refine Awp.ret ?_; try simp only [go_sem, *])
 | (apply Awp.cond; (case hc => (simp only [go_sem, *] <;> rfl)); all_goals (intro hg; (try simp only [Bool.not_true, Bool.not_false, reduceCtorEq] at hg)))
 | refine Awp.seq ?_)
        have hr : ∀ k, k < 3 → rn nm 3 k = k := fun k hk => by unfold rn; rw [if_neg (by omega)]
        refine ⟨3, Nat.le_refl _, .own (hr 2 (by omega)) (by simp), fun k b' hk => ?_⟩
        by_cases h2 : k = 2
        · subst h2
          have e1 : b' = .row (sps l) 2 30 := by simpa [upd] using hk.symm
          subst e1
          rw [hr 2 (by omega)]
          exact ⟨_, rfl, .row rfl⟩
        · simp [upd, updL, listH, h2] at hk
    have := key.ownPre (es := sps l) (sz := 2) (e := 30) (by simp [updL, upd]) (by simp)
    rw [sps_len] at this
    exact this
  · rw [e] at c0
    refine fn_cc Tryz.F100 (Nat.le_of_ble_eq_true rfl) (bs := 3) ?_ ?_ ?_ ?_ ?_ ?_ ?_
    · simp
    · simp; omega
    · simp
    · simp
    · simp only [List.map_cons, List.map_nil, List.mem_cons, List.not_mem_nil, or_false]
      rintro p rfl
      exact .row rfl
    · intro j hj
      match j, hj with
      | 0, _ => exact .own rfl (by simp)
      | 1, _ => exact .fn rfl fun j hj => by simp at hj
    · unfold Tryz.ac100 AR AM AO
      have hav0 : av [AV.own 2, AV.fn 102 []] 0 = AV.own 2 := rfl
      have hav1 : av [AV.own 2, AV.fn 102 []] 1 = AV.fn 102 [] := rfl
      have hk0 : keepL l i0 = l.take i0 := by
        unfold keepL
        rw [List.filter_eq_self]
        intro x hx
        obtain ⟨j, hj, rfl⟩ := List.mem_take_iff_getElem.1 hx
        have := hall j (by omega)
        rw [List.getD_eq_getElem?_getD, List.getElem?_eq_getElem (by omega)] at this
        simp only [Option.getD_some] at this
        rw [full_not, this]; rfl
      have hk1 : keepL l (i0 + 1) = l.take i0 := by
        rw [keep_step l i0 hi0, full_not, hp, hk0]; simp
      have hrow : keepL l (i0 + 1) ++ [l.getD i0 zeroSp] ++ l.drop (i0 + 1) = l := by
        rw [hk1, List.append_assoc, List.singleton_append, ← drop_cons l i0 hi0, List.take_append_drop]
      have hk1l : (keepL l (i0 + 1)).length = i0 := by rw [hk1]; simp; omega
      have hne : ((i0 : Int) == -1) = false := by simp
      have hw : IntKind.i64.wrap ((i0 : Int) + 1) = ((i0 + 1 : Nat) : Int) := by rw [wrap_i64 (by omega) (by omega)]; simp
      clear hall e hp hk0 hk1
      repeat' (first
 | (apply Awp.sreg; (case hn => (simp only [List.length_cons, List.length_nil, Nat.reduceAdd] <;> rfl)))
 | (refine st_nil ?_)
 | (apply st_a; (case hc => rfl); (case he => (simp only [go_sem, *] <;> rfl)); (case hu => (simp only [updL_nil, updL_cons] <;> rfl)); (case hp => first | trivial))
 | (apply st_cd; (case hc => (simp only [go_sem, *] <;> rfl)); (case hl => (simp only [go_sem, *] <;> rfl)); (case hn => (simp only [go_sem, *] <;> rfl)); (case hp => first | exact c0 | (have hXz := c0; simp only [go_sem, *] at hXz; exact hXz)); (case hd => first | exact .v _ | exact .any | exact .nils | (repeat' (first | exact Dry.v _ | exact Dry.any | exact Dry.nils | exact Dry.slE | refine Dry.agg ?_ | refine Dry.tup ?_ | (refine List.forall_mem_cons.2 (And.intro ?_ ?_)) | (intro cQ hQ; cases hQ; done)))); (case hm => first | decide | (simp; done)))
 | (refine Awp.skip ?_; try simp only [go_sem, *])
 | refine Awp.block ?_
 | (apply Awp.cond; (case hc => (simp only [go_sem, *] <;> rfl)); all_goals (intro hg; (try simp only [Bool.not_true, Bool.not_false, reduceCtorEq] at hg)))
 | refine Awp.seq ?_)
      refine Awp.loop (fun q : Nat × List Sp => q.1 ≤ l.length ∧ 0 < q.2.length ∧ (keepL l q.1).length + q.2.length = q.1) 100 (dS l) (fun q => l.length - q.1) (i0 + 1, [l.getD i0 zeroSp]) ⟨by dsimp only; omega, by simp, by dsimp only; rw [hk1l]; simp⟩ ?_ ?_
      · unfold dS
        dsimp only
        rw [hrow, hk1l]
        (apply Ghost.mkB []; (case hnb => rfl); (case hbx => omega); (case hinj => rfl); (case hV => (simp only [go_sem, *]) <;> (repeat' (first | refine And.intro ?_ ?_ | exact .own rfl (by decide) | (refine View.fnF ?_; (simp [AV.flat]; done))))); (case hB => (simp only [go_sem, *]) <;> (repeat' (first | exact ⟨_, rfl, .rowE (by first | rfl | omega | (simp; done) | (rw [wrap_i64] <;> (try simp only [Int.natCast_add]) <;> omega) | (simp [*]; done))⟩))))
      · rintro ⟨j, G⟩ ⟨hj, hG, hKG⟩
        dsimp only at hj hG hKG
        clear hrow hk1l hne hw c0
        have hlen : (sps (keepL l j ++ G ++ l.drop j)).length = l.length := by rw [sps_len]; simp; omega
        by_cases hlt : j < l.length
        · have hlt' : (j : Int) < l.length := by omega
          have hat : (sps (keepL l j ++ G ++ l.drop j)).getD j [] = (l.getD j zeroSp).cells := by
            rw [sps_at _ _ (by simp; omega)]
            congr 1
            simp only [List.getD_eq_getElem?_getD]
            rw [List.getElem?_append_right (by simp; omega)]
            simp [hKG]
          have hz : ((l.getD j zeroSp).cells).length = 2 := rfl
          have hst := keep_step l j hlt
          have hdr := drop_cons l j hlt
          have hc := empty_ok (l.getD j zeroSp)
          obtain ⟨g, G', rfl⟩ : ∃ g G', G = g :: G' := by
            cases G with
            | nil => simp at hG
            | cons g G' => exact ⟨g, G', rfl⟩
          have hKl : (keepL l j).length < l.length := by simp at hKG; omega
          cases hB : decide ((l.getD j zeroSp).b ≤ (l.getD j zeroSp).a)
          · rw [hB] at hc
            rw [full_not, hB] at hst
            simp only [Bool.not_false, if_true] at hst
            have hkl2 : (keepL l (j + 1)).length = (keepL l j).length + 1 := by rw [hst]; simp
            have hset : (sps (keepL l j ++ g :: G' ++ l.drop j)).set (keepL l j).length (splice ((sps (keepL l j ++ g :: G' ++ l.drop j)).getD (keepL l j).length []) 0 [.v (.int .i64 (l.getD j zeroSp).a), .v (.int .i64 (l.getD j zeroSp).b)]) = sps (keepL l (j + 1) ++ (G' ++ [l.getD j zeroSp]) ++ l.drop (j + 1)) := by
              rw [sps_at _ _ (by simp)]
              have e1 : splice ((keepL l j ++ g :: G' ++ l.drop j).getD (keepL l j).length zeroSp).cells 0 [.v (.int .i64 (l.getD j zeroSp).a), .v (.int .i64 (l.getD j zeroSp).b)] = [.v (.int .i64 (l.getD j zeroSp).a), .v (.int .i64 (l.getD j zeroSp).b)] := rfl
              rw [e1, sps_set, hst, hdr]
              congr 1
              rw [List.append_assoc, List.set_append]
              simp
            have hcells : ((sps (keepL l j ++ g :: G' ++ l.drop j)).getD (keepL l j).length []).length = 2 := by
              rw [sps_at _ _ (by simp)]; rfl
            have hinv : (keepL l (j + 1)).length + (G' ++ [l.getD j zeroSp]).length = j + 1 := by
              rw [hkl2]; simp at hKG ⊢; omega
            have hw2 : IntKind.i64.wrap (((keepL l j).length : Int) + 1) = ((keepL l (j + 1)).length : Int) := by rw [hkl2, wrap_i64 (by omega) (by omega)]; simp
            unfold dS
            dsimp only
            generalize hE : sps (keepL l j ++ g :: G' ++ l.drop j) = E at *
            generalize hk : (keepL l j).length = K at *
            generalize l.getD j zeroSp = v at *
            clear hst hdr hB hk hE hkl2
            repeat' (first
 | (apply Awp.sreg; (case hn => (simp only [List.length_cons, List.length_nil, Nat.reduceAdd] <;> rfl)))
 | (refine st_nil ?_)
 | (apply st_a; (case hc => rfl); (case he => (simp only [go_sem, *] <;> rfl)); (case hu => (simp only [updL_nil, updL_cons] <;> rfl)); (case hp => first | trivial | omega | (simp; done)))
 | (apply st_c; (case hc => (simp only [go_sem, *] <;> rfl)); (case hl => (simp only [go_sem, *] <;> rfl)); (case hn => (simp only [go_sem, *] <;> rfl)); (case hp => first | exact hc | (have hXz := hc; simp only [go_sem, *] at hXz; exact hXz)))
 | (apply Awp.reg; (case hn => (simp only [List.length_cons, List.length_nil, Nat.reduceAdd] <;> rfl)))
 | (refine Awp.skip ?_; try simp only [go_sem, *])
 | refine Awp.block ?_
 | (apply Awp.cond; (case hc => (simp only [go_sem, *] <;> rfl)); all_goals (intro hg; (try simp only [Bool.not_true, Bool.not_false, reduceCtorEq] at hg)))
 | refine Awp.seq ?_)
            refine ⟨(j + 1, G' ++ [v]), ⟨by dsimp only; omega, by simp, hinv⟩, by dsimp only; omega, ?_⟩
            dsimp only
            (apply Ghost.mkB []; (case hnb => rfl); (case hbx => omega); (case hinj => rfl); (case hV => (simp only [go_sem, *]) <;> (repeat' (first | refine And.intro ?_ ?_ | exact View.int (by first | rfl | exact hset | omega | (simp; done) | (rw [wrap_i64] <;> (try simp only [Int.natCast_add]) <;> omega) | (simp [*]; done)) | exact .own rfl (by decide) | (refine View.fnF ?_; (simp [AV.flat]; done))))); (case hB => (simp only [go_sem, *]) <;> (repeat' (first | exact ⟨_, rfl, .rowE (by first | rfl | exact hset | omega | (simp; done) | (rw [wrap_i64] <;> (try simp only [Int.natCast_add]) <;> omega) | (simp [*]; done))⟩))))
          · rw [hB] at hc
            rw [full_not, hB] at hst
            simp only [Bool.not_true, Bool.false_eq_true, if_false, List.append_nil] at hst
            have hrow2 : keepL l (j + 1) ++ (g :: G' ++ [l.getD j zeroSp]) ++ l.drop (j + 1) = keepL l j ++ g :: G' ++ l.drop j := by
              rw [hst, hdr]; simp
            have hinv : (keepL l (j + 1)).length + (g :: G' ++ [l.getD j zeroSp]).length = j + 1 := by
              rw [hst]; simp at hKG ⊢; omega
            unfold dS
            dsimp only
            rw [← hst] at hat hlen hKl hrow2 ⊢
            generalize l.getD j zeroSp = v at *
            generalize hE : sps (keepL l (j + 1) ++ g :: G' ++ l.drop j) = E at *
            clear hst hdr hB
            repeat' (first
 | (apply Awp.sreg; (case hn => (simp only [List.length_cons, List.length_nil, Nat.reduceAdd] <;> rfl)))
 | (refine st_nil ?_)
 | (apply st_a; (case hc => rfl); (case he => (simp only [go_sem, *] <;> rfl)); (case hu => (simp only [updL_nil, updL_cons] <;> rfl)); (case hp => first | trivial | omega))
 | (apply st_c; (case hc => (simp only [go_sem, *] <;> rfl)); (case hl => (simp only [go_sem, *] <;> rfl)); (case hn => (simp only [go_sem, *] <;> rfl)); (case hp => first | exact hc | (have hXz := hc; simp only [go_sem, *] at hXz; exact hXz)))
 | (apply Awp.reg; (case hn => (simp only [List.length_cons, List.length_nil, Nat.reduceAdd] <;> rfl)))
 | (refine Awp.skip ?_; try simp only [go_sem, *])
 | refine Awp.block ?_
 | (apply Awp.cond; (case hc => (simp only [go_sem, *] <;> rfl)); all_goals (intro hg; (try simp only [Bool.not_true, Bool.not_false, reduceCtorEq] at hg)))
 | refine Awp.seq ?_)
            refine ⟨(j + 1, g :: G' ++ [v]), ⟨by dsimp only; omega, by simp, hinv⟩, by dsimp only; omega, ?_⟩
            dsimp only
            rw [hrow2, hE]
            (apply Ghost.mkB []; (case hnb => rfl); (case hbx => omega); (case hinj => rfl); (case hV => (simp only [go_sem, *]) <;> (repeat' (first | refine And.intro ?_ ?_ | exact View.int (by first | rfl | omega | (simp; done) | (rw [wrap_i64] <;> (try simp only [Int.natCast_add]) <;> omega) | (simp [*]; done)) | exact .own rfl (by decide) | (refine View.fnF ?_; (simp [AV.flat]; done))))); (case hB => (simp only [go_sem, *]) <;> (repeat' (first | exact ⟨_, rfl, .rowE (by first | rfl | omega | (simp; done) | (rw [wrap_i64] <;> (try simp only [Int.natCast_add]) <;> omega) | (simp [*]; done))⟩))))
        · have hlt' : ¬ (j : Int) < l.length := by omega
          have hjl : j = l.length := by omega
          have hdr : l.drop j = [] := List.drop_eq_nil_of_le (by omega)
          have hkf : keepL l j = l.filter fullB := by unfold keepL; rw [List.take_of_length_le (by omega)]
          have hfin : (sps (keepL l j ++ G ++ l.drop j)).take (keepL l j).length ++ List.replicate ((sps (keepL l j ++ G ++ l.drop j)).length - (keepL l j).length) [AV.v (.int .i64 0), .v (.int .i64 0)] = delRow l := by
            rw [hlen]
            unfold delRow zrow
            rw [← hkf]
            congr 1
            rw [List.append_assoc, sps_append, ← sps_len (keepL l j), List.take_left]
          have hpl : (l.filter fullB).length = (keepL l j).length := by rw [hkf]
          have hKl : (keepL l j).length < l.length := by omega
          rw [hpl]
          unfold dS
          dsimp only
          generalize hE : sps (keepL l j ++ G ++ l.drop j) = E at *
          generalize (keepL l j).length = K at *
          clear hE hdr hkf hpl hjl
          repeat' (first
 | (apply Awp.sreg; (case hn => (simp only [List.length_cons, List.length_nil, Nat.reduceAdd] <;> rfl)))
 | (refine st_nil ?_)
 | (apply st_a; (case hc => rfl); (case he => (simp only [go_sem, *] <;> rfl)); (case hu => (simp only [updL_nil, updL_cons] <;> rfl)); (case hp => first | trivial | omega | (simp; omega)))
 | (refine Awp.ret ?_; try simp only [go_sem, *])
 | (refine Awp.exit ?_; try simp only [go_sem, *])
 | (apply Awp.cond; (case hc => (simp only [go_sem, *] <;> rfl)); all_goals (intro hg; (try simp only [Bool.not_true, Bool.not_false, reduceCtorEq] at hg)))
 | refine Awp.seq ?_)
          have hr : ∀ k, k < 3 → rn nm 3 k = k := fun k hk => by unfold rn; rw [if_neg (by omega)]
          refine ⟨3, Nat.le_refl _, .pre (hr 2 (by omega)) (by simp), fun k b' hk => ?_⟩
          by_cases h2 : k = 2
          · subst h2
            have e1 : b' = .row (delRow l) 2 30 := by simpa [upd] using hk.symm
            subst e1
            rw [hr 2 (by omega)]
            exact ⟨_, rfl, .row (by rw [hlen] at hfin; exact hfin)⟩
          · simp [upd, updL, listH, h2] at hk
end Go.Proofs
namespace Go.Ab
open Go.Shelf Go.RowKit Go.Lib Go.Proofs Go.Sort
def prs (l : List (Int × Int)) : List (List AV) := l.map fun x => [.v (.int .i64 x.1), .v (.int .i64 x.2)]
theorem prs_len (l : List (Int × Int)) : (prs l).length = l.length := by simp [prs]
theorem prs_append (l t : List (Int × Int)) : prs (l ++ t) = prs l ++ prs t := by simp [prs]
def encP (x : Int × Int) : List Value := [.int .i64 x.1, .int .i64 x.2]
def pc (l : List (Int × Int)) (j : Nat) : Int := if j % 2 = 0 then (l.getD (j / 2) (0, 0)).1 else (l.getD (j / 2) (0, 0)).2
def flatP (l : List (Int × Int)) : List Value := (List.range (l.length * 2)).map fun j => Value.int .i64 (pc l j)
theorem flatP_len (l : List (Int × Int)) : (flatP l).length = l.length * 2 := by simp [flatP]
theorem flatP_get (l : List (Int × Int)) (j : Nat) (h : j < l.length * 2) : cv (flatP l) j = .int .i64 (pc l j) := by
  simp [cv, flatP, List.getD_eq_getElem?_getD, h]
theorem prs_cell (l : List (Int × Int)) (i j : Nat) (hi : i < l.length) (hj : j < 2) : av ((prs l).getD i []) j = .v (.int .i64 (pc l (i * 2 + j))) := by
  have e1 : (i * 2 + j) / 2 = i := by omega
  have e2 : (i * 2 + j) % 2 = j := by omega
  unfold pc
  rw [e1, e2]
  have e3 : (prs l).getD i [] = [.v (.int .i64 (l.getD i (0, 0)).1), .v (.int .i64 (l.getD i (0, 0)).2)] := by
    simp [prs, List.getD_eq_getElem?_getD, hi]
  rw [e3]
  match j, hj with
  | 0, _ => rfl
  | 1, _ => rfl
theorem fits_prs {st : Nat → Prop} {w : World} {l : List (Int × Int)} {e : TypeId} {c : Value} {xs : List Value} (h : RowFits st w (prs l) 2 e c xs) : xs = flatP l := by
  have hlen : xs.length = l.length * 2 := by rw [h.row.len, prs_len]
  apply List.ext_getElem (by rw [flatP_len]; exact hlen)
  intro j h1 h2
  have h3 := h.cell (j / 2) (j % 2) (by rw [prs_len]; omega) (by omega)
  rw [prs_cell l (j / 2) (j % 2) (by omega) (by omega), show j / 2 * 2 + j % 2 = j by omega] at h3
  have e1 : cv xs j = xs[j] := by simp [cv, List.getD_eq_getElem?_getD, List.getElem?_eq_getElem h1]
  have e2 : (flatP l)[j] = .int .i64 (pc l j) := by simp [flatP]
  rw [e2, ← e1]
  generalize cv xs j = q at h3 ⊢
  cases h3
  rfl
theorem prs_fits {st : Nat → Prop} {w : World} {l : List (Int × Int)} {e : TypeId} {c : Value} (h : RowRep w e 2 c l.length (flatP l)) : RowFits st w (prs l) 2 e c (flatP l) := by
  refine ⟨by intro y hy; obtain ⟨x, _, rfl⟩ := List.mem_map.1 hy; rfl, by omega, by rw [prs_len]; exact h, by simp [flatP, Value.oneCell'], fun i j hi hj => ?_⟩
  rw [prs_len] at hi
  rw [prs_cell l i j hi hj, flatP_get l (i * 2 + j) (by omega)]
  exact .v _
def sortP (cf : Int × Int → Int × Int → Int) (l : List (Int × Int)) : List (Int × Int) := (pdq (ltOf cf) l.toArray 0 l.toArray.size (Lib.bitLen l.toArray.size) true true).toList
theorem sortP_spec (cf : Int × Int → Int × Int → Int) (hO : SWO (ltOf cf)) (l : List (Int × Int)) : (sortP cf l).Perm l ∧ (sortP cf l).Pairwise fun x y => ltOf cf y x = false := by
  have h := pdq_sorts (ltOf cf) hO l.toArray 0 l.toArray.size (Lib.bitLen l.toArray.size) true true (Nat.zero_le _) (Nat.le_refl _) (Or.inl rfl)
  obtain ⟨⟨h1, _, h2⟩, h3⟩ := h
  unfold sortP
  generalize pdq (ltOf cf) l.toArray 0 l.toArray.size (Lib.bitLen l.toArray.size) true true = d at *
  have e1 : (d.extract 0 l.toArray.size).toList = d.toList := by rw [← h1]; simp
  have e2 : (l.toArray.extract 0 l.toArray.size).toList = l := by simp
  rw [e1, e2] at h2
  refine ⟨h2, List.pairwise_iff_getElem.2 fun i j hi hj hij => ?_⟩
  have := h3 i j (Nat.zero_le _) hij (by rw [← h1]; simpa using hj)
  rw [getElem!_pos d j (by simpa using hj), getElem!_pos d i (by simpa using hi)] at this
  simpa using this
theorem sortP_len (cf : Int × Int → Int × Int → Int) (hO : SWO (ltOf cf)) (l : List (Int × Int)) : (sortP cf l).length = l.length := (sortP_spec cf hO l).1.length_eq
theorem flatK_get (l : List (Int × Int)) (j : Nat) (h : j < l.length * 2) : (flatK encP 2 l.toArray)[j]! = .int .i64 (pc l j) := by
  rw [get_flatK encP 2 l.toArray j (by simpa using h)]
  have hi : j / 2 < l.length := by omega
  have e1 : l.toArray[j / 2]! = l.getD (j / 2) (0, 0) := by
    rw [getElem!_pos l.toArray _ (by simpa using hi)]
    simp [List.getD_eq_getElem?_getD, hi]
  rw [e1]
  unfold pc encP
  rcases Nat.mod_two_eq_zero_or_one j with h2 | h2 <;> rw [h2] <;> rfl
theorem heap_sortP {w : World} {g n : Nat} {os : Array Obj} {cur : Array Value} {e : TypeId} {fr : Nat × Nat} (F : Array Value) (hb : w.heap[g]? = some (.cells cur e fr)) :
    (grow (putRow id (Sort.ahead w n) g 0 F) os).heap[g]? = some (.cells (putCells id 0 F cur) e fr) := by
  have hg : g < w.heap.size := (Array.getElem?_eq_some_iff.1 hb).1
  rw [heap_grow_old _ _ (by simpa using hg)]
  simp [putRow, mapBlock, Sort.ahead, Array.getElem?_modify, hb, onCells]
theorem grownBy_sortP {w : World} {g n : Nat} {os : Array Obj} (F : Array Value) : w.grownBy (grow (putRow id (Sort.ahead w n) g 0 F) os) (some g) := by
  refine ⟨rfl, rfl, rfl, by simp, fun k hk hne => ?_⟩
  rw [heap_grow_old _ _ (by simpa using hk)]
  have : g ≠ k := fun e => hne (by rw [e])
  simp [putRow, mapBlock, Sort.ahead, Array.getElem?_modify, this]
theorem sortF_cc {P : Program} {ρ : Ren} (L : SlLaysF0.n6 P ρ) (aE : ∀ w, (isAgg (ρ.t 24)).run P w = .ok true w) (zE : ∀ w, (Go.sizeOf (ρ.t 24)).run P w = .ok 2 w) (hcall : Callable P (ρ.f 6)) (cf : Int × Int → Int × Int → Int) (hO : SWO (ltOf cf)) (g : Nat)
    (eg : ∀ args w, (callFunc g args).run P w = .ok (.enter g args) w)
    (hcmp : ∀ (x y : Int × Int) (W : World), Calls P g #[.agg #[.int .i64 x.1, .int .i64 x.2], .agg #[.int .i64 y.1, .int .i64 y.2]] W fun e w' => e = .returned (.int .i64 (cf x y)) ∧ ∃ q os', w' = grow (W.drewN q) os')
    (l t : List (Int × Int)) (b nm : Nat) (e : TypeId) (hl : l.length < 1000000) : CallC P (ρ.f 6) [.pre b l.length, .fn g []] [(b, .row (prs (l ++ t)) 2 e)] nm (.tup []) [(b, some (.row (prs (sortP cf l ++ t)) 2 e))] := by
  refine ⟨hcall, fun prov β w cs hn hb hi hv => ?_⟩
  have hlk : ∀ n, updL (listH [(b, Blk.row (prs (l ++ t)) 2 e)]) [(b, some (Blk.row (prs (sortP cf l ++ t)) 2 e))] n = if n = b then some (.row (prs (sortP cf l ++ t)) 2 e) else none := by
    intro n; simp only [updL, upd, listH]; split <;> simp
  have hB := hb b (.row (prs (l ++ t)) 2 e) (by simp [listH])
  obtain ⟨xs, hf⟩ := hB
  obtain rfl := fits_prs hf
  obtain ⟨hlen, hv⟩ := hv
  match cs, hlen with
  | [c, c2], _ =>
  have h1 := hv 0 (by simp)
  have h2 := hv 1 (by simp)
  simp only [av_zero, cv, List.getD_cons_zero] at h1
  obtain ⟨ad, n, cap, cap', hβ, rfl, hk, hm⟩ := h1.pre_inv
  obtain ⟨ys, hc2, hy, _⟩ := SimV.fn_inv (f := g) (cs := []) h2
  have hys : ys = [] := List.eq_nil_of_length_eq_zero (by simpa using hy.symm)
  subst hys
  have hc2 : c2 = .func (.func g) #[] #[] := hc2
  subst hc2
  have hsl := sortP_len cf hO l
  have tail : ∀ w', w.grownBy w' (blkOf (β b)) → RowRep w' e 2 (β b) (sortP cf l ++ t).length (flatP (sortP cf l ++ t)) →
      ∃ c β', Ending.returned (Value.tuple #[]) = .returned c ∧ w'.os = w.os ∧ w'.tape = w.tape ∧ w'.output = w.output ∧ w.heap.size ≤ w'.heap.size ∧ Grows β β' ∧ (∀ n, n ≠ nm → β' n = β n) ∧
      (∀ g, g < w.heap.size → (∀ n b', listH [(b, Blk.row (prs (l ++ t)) 2 e)] n = some b' → n ∈ [(b, some (Blk.row (prs (sortP cf l ++ t)) 2 e))].map (·.1) → blkOf (β n) ≠ some g) → w'.heap[g]? = w.heap[g]?) ∧
      SimV (stb (fun g => prov g ∨ w.heap.size ≤ g) w' β' (updL (listH [(b, Blk.row (prs (l ++ t)) 2 e)]) [(b, some (Blk.row (prs (sortP cf l ++ t)) 2 e))])) β' w' (.tup []) c ∧
      (∀ n b', updL (listH [(b, Blk.row (prs (l ++ t)) 2 e)]) [(b, some (Blk.row (prs (sortP cf l ++ t)) 2 e))] n = some b' → n ∈ [(b, some (Blk.row (prs (sortP cf l ++ t)) 2 e))].map (·.1) → BlkRep (stb (fun g => prov g ∨ w.heap.size ≤ g) w' β' (updL (listH [(b, Blk.row (prs (l ++ t)) 2 e)]) [(b, some (Blk.row (prs (sortP cf l ++ t)) 2 e))])) β' w' b' (β' n) ∧
        ∀ g, blkOf (β' n) = some g → w.heap.size ≤ g ∨ ∃ m b', listH [(b, Blk.row (prs (l ++ t)) 2 e)] m = some b' ∧ m ∈ [(b, some (Blk.row (prs (sortP cf l ++ t)) 2 e))].map (·.1) ∧ blkOf (β m) = some g) ∧
      Inj β' (updL (listH [(b, Blk.row (prs (l ++ t)) 2 e)]) [(b, some (Blk.row (prs (sortP cf l ++ t)) 2 e))]) := by
    intro w' hg hr
    refine ⟨_, β, rfl, hg.os, hg.tape, hg.output, hg.size, Grows.refl _, fun _ _ => rfl, fun g hgl hno => ?_, .pure (.tup [] [] rfl (fun j hj => by simp at hj)), fun n b' hb' _ => ?_, ?_⟩
    · exact hg.block g hgl (fun e' => hno b (.row (prs (l ++ t)) 2 e) (by simp [listH]) (by simp) e'.symm)
    · rw [hlk] at hb'
      split at hb'
      · rename_i hnb; subst hnb
        simp at hb'; subst hb'
        exact ⟨⟨_, prs_fits hr⟩, fun g hgb => .inr ⟨n, .row (prs (l ++ t)) 2 e, by simp [listH], by simp, hgb⟩⟩
      · cases hb'
    · intro n m b1 b2 g h1 h2 _ _
      rw [hlk] at h1 h2
      split at h1
      · split at h2
        · simp_all
        · cases h2
      · cases h1
  rw [hβ] at hf
  obtain ⟨hnl, hnc, hcm, hpos⟩ := row_cap hf
  rw [prs_len] at hnl
  by_cases hl0 : l = []
  · subst hl0
    have hs0 : sortP cf [] = [] := List.eq_nil_of_length_eq_zero hsl
    refine (AnyF.slices_SortFunc_none L ad cap' (.func (.func g) #[] #[]) w).mono fun e' w' ⟨he, hw⟩ => ?_
    subst he; subst hw
    refine tail w' ⟨rfl, rfl, rfl, Nat.le_refl _, fun _ _ _ => rfl⟩ ?_
    rw [hs0]
    have := hf.row
    rw [prs_len] at this
    rw [hβ]
    exact this
  · have hlp : 0 < l.length := List.length_pos_iff.2 hl0
    obtain ⟨gb, cur, rfl, hg, hcur, htk⟩ := hpos (by rw [hnl]; simp; omega)
    have hlt : gb < w.heap.size := (Array.getElem?_eq_some_iff.1 hg).1
    rw [prs_len] at htk
    have hla : (l ++ t).length = l.length + t.length := by simp
    have hcs : (l ++ t).length * 2 ≤ cur.size := by rw [hcur]; exact Nat.mul_le_mul_right _ (by omega)
    have hcell : ∀ j, j < (l ++ t).length * 2 → cur[j]? = some (.int .i64 (pc (l ++ t) j)) := by
      intro j hj
      have h3 : (cur.toList.take ((l ++ t).length * 2))[j]? = (flatP (l ++ t))[j]? := by rw [htk]
      rw [List.getElem?_take_of_lt hj] at h3
      rw [← Array.getElem?_toList, h3]
      unfold flatP
      rw [List.getElem?_map, List.getElem?_range hj]
      rfl
    have pl : ∀ j, j < l.length * 2 → pc (l ++ t) j = pc l j := by
      intro j hj
      unfold pc
      have : (l ++ t).getD (j / 2) (0, 0) = l.getD (j / 2) (0, 0) := by
        simp only [List.getD_eq_getElem?_getD]
        rw [List.getElem?_append_left (by omega)]
      rw [this]
    have pr : ∀ j, l.length * 2 ≤ j → pc (sortP cf l ++ t) j = pc (l ++ t) j := by
      intro j hj
      unfold pc
      have : (sortP cf l ++ t).getD (j / 2) (0, 0) = (l ++ t).getD (j / 2) (0, 0) := by
        simp only [List.getD_eq_getElem?_getD]
        rw [List.getElem?_append_right (by omega), List.getElem?_append_right (by omega), hsl]
      rw [this]
    have pl2 : ∀ j, j < l.length * 2 → pc (sortP cf l ++ t) j = pc (sortP cf l) j := by
      intro j hj
      unfold pc
      have : (sortP cf l ++ t).getD (j / 2) (0, 0) = (sortP cf l).getD (j / 2) (0, 0) := by
        simp only [List.getD_eq_getElem?_getD]
        rw [List.getElem?_append_left (by omega)]
      rw [this]
    have hH : HoldsK encP 2 w gb 0 l.toArray := by
      intro j hj
      rw [size_flatK] at hj
      have hj : j < l.length * 2 := by simpa using hj
      refine ⟨?_, by simp [World.frozen?, hg]⟩
      rw [flatK_get l j hj]
      simp only [World.cell?, hg, Nat.zero_add, Option.isSome_none, Bool.false_eq_true, if_false, id]
      rw [hcell j (by omega), pl j hj]
    have key := AnyQ.slices_SortFunc_eq L 2 aE zE encP (fun _ => rfl) (fun x v hv => by simp [encP] at hv; rcases hv with rfl | rfl <;> rfl) cf hO g #[] gb 0 cap' l.toArray w eg (fun m os dk _ x y => hcmp x y _) hH hlt (by simp; omega)
    have es : l.toArray.size = l.length := by simp
    rw [es] at key
    refine key.mono fun e' w' ⟨he, q, os, hw⟩ => ?_
    subst he
    have hsp : (pdq (ltOf cf) l.toArray 0 l.length (Lib.bitLen l.length) true true) = (sortP cf l).toArray := by unfold sortP; simp
    rw [hsp] at hw
    subst hw
    have hbk : blkOf (β b) = some gb := by rw [hβ]; simp [blkOf]; omega
    refine tail _ ?_ ?_
    · rw [hbk]; exact grownBy_sortP _
    · have hla2 : (sortP cf l ++ t).length = n := by simp [hsl]; omega
      rw [hβ, hla2]
      refine .inr ⟨gb, cap, rfl, by omega, by rw [flatP_len, hla2], .inr ⟨gb, cap, _, rfl, Nat.zero_le _, heap_sortP _ hg, hnc, hcm, by simp [putCells, hcur], ?_⟩⟩
      apply List.ext_getElem?
      intro j
      by_cases hj : j < n * 2
      · rw [List.getElem?_take_of_lt hj, Array.getElem?_toList]
        have e1 : (flatP (sortP cf l ++ t))[j]? = some (.int .i64 (pc (sortP cf l ++ t) j)) := by
          unfold flatP
          rw [List.getElem?_map, List.getElem?_range (by rw [hla2]; exact hj)]
          rfl
        rw [e1]
        simp only [putCells, Array.getElem?_mapIdx, size_flatK, List.size_toArray, hsl, Nat.zero_le, Nat.zero_add, true_and, Nat.sub_zero, id]
        rw [hcell j (by rw [← hnl]; exact hj)]
        simp only [Option.map_some]
        by_cases h3 : j < l.length * 2
        · rw [if_pos h3, flatK_get _ j (by rw [hsl]; exact h3), pl2 j h3]
        · rw [if_neg h3, pr j (by omega)]
      · rw [List.getElem?_take_eq_none (by omega), List.getElem?_eq_none (by rw [flatP_len, hla2]; omega)]
end Go.Ab
namespace Go.Ab
open Go.Shelf Go.RowKit Go.Lib Go.Proofs
variable {P : Program} {ρ : Ren}

set_option maxHeartbeats 2000000 in
set_option maxRecDepth 100000 in
theorem clone_zero (L : SlLaysE0.n41 P ρ) (i0 : TypeInfo) (z : Value) (size bytes : Nat) (hi : P.info? (ρ.t 23) = some i0) (hz0 : i0.zero = some z) (hz1 : i0.size = size) (hz2 : i0.bytes = bytes) (hzs : z.cells.size = size) (hsz : 0 < size)
    (z23 : ∀ w, (Go.sizeOf (ρ.t 23)).run P w = .ok size w) (a : Addr) (c : Nat) (w : World) :
    Calls P (ρ.f 41) #[.slice (some a) 0 c] w fun e w' => ∃ v', e = .returned v' ∧ w'.ownsRow w.heap.size (ρ.t 23) size v' 0 [] ∧ Below w.heap.size w w' := by
  have mixed := L.mixed; have t4 := L.t4; have a4 := L.a4; have z4 := L.z4; have v4 := L.v4; have t22 := L.t22; have a22 := L.a22; have z22 := L.z22; have v22 := L.v22
  have q22 : ∀ (w : World) (a : Option Addr) (n c n' c' : Nat), (binOp .eql (ρ.t 22) (.slice a n c) (.slice none n' c')).run P w = .ok (.bool a.isNone) w := fun w a n c n' c' => Lib.run_eql_slice_nil w _ _ a n c n' c' L.t22
  have u22 : ∀ w, Sem.run P (underlying (ρ.t 22)) w = .ok (TypeDesc.slice (ρ.t 23)) w := run_underlying t22
  obtain ⟨_, _, FG⟩ := L.f41
  go_enter FG, SlBodyN.n41_ntmps ρ
  go_wp2_with (at_builtin; refine wpList_append_own _ rfl _ _ (ρ.t 22) rfl w.heap.size (ρ.t 23) i0 z size bytes t22 hi hz0 hz1 hz2 hzs hsz _ _ _ rfl (World.ownsRow_made w #[] 0 (Nat.le_refl _) (Nat.zero_le _) (by simp)) a 0 c [] rfl ?qc1 ?qc2 ?qc3 ?qc4 ?qc5 ?qc6 ?_)
  case qc1 => simp
  case qc2 => intro j u hj; simp at hj
  case qc3 => intro u hu; cases hu
  case qc4 => unfold maxLen; omega
  case qc5 => omega
  case qc6 => simp
  intro v' w1 hown hgrow hnil
  go_wp2
  go_ret
  refine ⟨v', rfl, by simpa using hown, ?_⟩
  exact ((Below.refl _ w).alloc (Nat.le_refl _) _).grown hgrow (by simp) (by intro k hk; simp [Value.ownBlock] at hk; omega)

theorem getD_flat (es : List (List AV)) (f : Nat → Nat → Value) (sz n : Nat) (hn : n = es.length) (i j : Nat) (hi : i < n) (hj : j < sz) :
    cv ((List.range (n * sz)).map fun k => f (k / sz) (k % sz)) (i * sz + j) = f i j := by
  have h1 : i * sz + j < n * sz := by
    calc i * sz + j < i * sz + sz := by omega
      _ = (i + 1) * sz := by rw [Nat.add_mul]; omega
      _ ≤ n * sz := Nat.mul_le_mul_right _ (by omega)
  have h2 : (i * sz + j) / sz = i := by rw [Nat.add_comm, Nat.add_mul_div_right _ _ (by omega), Nat.div_eq_of_lt hj, Nat.zero_add]
  have h3 : (i * sz + j) % sz = j := by rw [Nat.add_comm, Nat.add_mul_mod_self_right, Nat.mod_eq_of_lt hj]
  simp [cv, List.getD_eq_getElem?_getD, h1, h2, h3]

theorem clone_of (L : SlLaysE0.n41 P ρ) (hcall : Callable P (ρ.f 41)) (i0 : TypeInfo) (z : Value) (size bytes : Nat) (hi : P.info? (ρ.t 23) = some i0) (hz0 : i0.zero = some z) (hz1 : i0.size = size) (hz2 : i0.bytes = bytes) (hzs : z.cells.size = size) (hsz : 0 < size)
    (z23 : ∀ w, (Go.sizeOf (ρ.t 23)).run P w = .ok size w) (es : List (List AV)) (hes : ∀ x ∈ es, x.length = size) (hbig : es.length * bytes ≤ 140737488355328) : PureOwn P (ρ.f 41) [.sl es] es size (ρ.t 23) := by
  refine ⟨hcall, fun ok w cs ⟨hlen, hv⟩ => ?_⟩
  match cs, hlen with
  | [c], _ =>
  have h1 := hv 0 (by simp)
  simp only [av_zero, cv, List.getD_cons_zero] at h1
  have tail : ∀ w' v' news, w'.ownsRow w.heap.size (ρ.t 23) size v' es.length news → Below w.heap.size w w' → (∀ u ∈ news, u.oneCell' = true) → (∀ i j, i < es.length → j < size → PureV (fun g => g < w.heap.size ∧ ok g) w (av (es.getD i []) j) (cv news (i * size + j))) →
      ∃ c, Ending.returned v' = .returned c ∧ Keeps w w' ∧ (∃ a n cap, c = .slice a n cap) ∧ (∃ xs, RowFits (fun g => g < w'.heap.size ∧ (ok g ∨ w.heap.size ≤ g) ∧ blkOf c ≠ some g) w' es size (ρ.t 23) c xs) ∧ ∀ g, blkOf c = some g → w.heap.size ≤ g := by
    intro w' v' news ho hb hone hp
    have hblk : ∀ g, blkOf v' = some g → w.heap.size ≤ g := by
      intro g hg
      rcases ho.2 with ⟨h, _⟩ | ⟨g', cap, cur, h, hge, _⟩
      · rw [h] at hg; simp [blkOf] at hg
      · rw [h] at hg
        simp only [blkOf] at hg
        split at hg
        · cases hg
        · simp only [Option.some.injEq] at hg; omega
    refine ⟨v', rfl, ⟨hb.os, hb.tape, hb.output, hb.size, hb.block⟩, ?_, ⟨news, hes, hsz, RowRep.of_owns ho, hone, fun i j hi hj => (hp i j hi hj).mono fun g hg => ⟨⟨Nat.lt_of_lt_of_le hg.1 hb.size, .inl hg.2, fun e => ?_⟩, hb.block g hg.1⟩⟩, hblk⟩
    · rcases ho.2 with ⟨h, _⟩ | ⟨g, cap, cur, h, _⟩
      · exact ⟨_, _, _, h⟩
      · exact ⟨_, _, _, h⟩
    · have := hblk g e; omega
  cases h1 with
  | slE a cap hc =>
    cases a with
    | none =>
      refine (AnyE.slices_Clone_nil L 0 cap w).mono fun e w' ⟨he, hw⟩ => ?_
      subst he; subst hw
      exact tail w' _ [] ⟨by simp, .inl ⟨rfl, rfl⟩⟩ (Below.refl _ _) (by simp) (fun i j hi => by simp at hi)
    | some a =>
      refine (clone_zero L i0 z size bytes hi hz0 hz1 hz2 hzs hsz z23 a cap w).mono fun e w' ⟨v', he, ho, hb⟩ => ?_
      subst he
      exact tail w' v' [] ho hb (by simp) (fun i j hi => by simp at hi)
  | slC _ g off cap sz f hc hm h0 hne hz hst hcell hr =>
    have hsz' : sz = size := by
      obtain ⟨x, hx⟩ := List.exists_mem_of_ne_nil _ hne
      exact (hz x hx).symm.trans (hes x hx)
    subst hsz'
    have hat := getD_flat es f sz es.length rfl
    have dm : ∀ k, k < es.length * sz → k / sz < es.length ∧ k % sz < sz := fun k hk => ⟨(Nat.div_lt_iff_lt_mul hsz).2 hk, Nat.mod_lt _ hsz⟩
    refine (AnyE.slices_Clone L i0 z sz bytes hi hz0 hz1 hz2 hzs hsz z23 g off es.length cap ((List.range (es.length * sz)).map fun k => f (k / sz) (k % sz)) w (by simp) (by omega) hbig (fun j u hj => ?_) (fun u hu => ?_)).mono fun e w' ⟨v', he, ho, _, hb⟩ => ?_
    · rw [List.getElem?_map] at hj
      by_cases hjl : j < es.length * sz
      · rw [List.getElem?_range hjl] at hj
        simp only [Option.map_some, Option.some.injEq] at hj
        subst hj
        obtain ⟨d1, d2⟩ := dm j hjl
        have := (hcell (j / sz) (j % sz) d1 d2).1
        rwa [show j / sz * sz + j % sz = j by rw [Nat.mul_comm]; exact Nat.div_add_mod j sz] at this
      · rw [List.getElem?_eq_none (by simpa using hjl)] at hj
        simp at hj
    · simp only [List.mem_map, List.mem_range] at hu
      obtain ⟨k, hk, rfl⟩ := hu
      obtain ⟨d1, d2⟩ := dm k hk
      exact (hcell _ _ d1 d2).2
    · subst he
      refine tail w' v' _ ho hb (fun u hu => ?_) (fun i j hi hj => ?_)
      · simp only [List.mem_map, List.mem_range] at hu
        obtain ⟨k, hk, rfl⟩ := hu
        obtain ⟨d1, d2⟩ := dm k hk
        exact (hcell _ _ d1 d2).2
      · rw [hat i j hi hj]
        exact hr i j hi hj
end Go.Ab
namespace Go.Proofs
open Go Go.Ab Go.Shelf Go.RowKit Go.Lib Go.Sort
set_option maxRecDepth 100000
theorem ltA (x y : Int × Int) : ltOf (fun x y : Int × Int => Lib.compareInt x.1 y.1) x y = decide (x.1 < y.1) := by
  unfold ltOf Lib.compareInt
  by_cases h1 : x.1 < y.1
  · simp [h1]
  · by_cases h2 : y.1 < x.1 <;> simp [h1, h2]
theorem swoA : SWO (ltOf fun x y : Int × Int => Lib.compareInt x.1 y.1) where
  irrefl x := by rw [ltA]; simp
  trans x y z h1 h2 := by rw [ltA] at *; simp at *; omega
  ntrans x y z h1 h2 := by rw [ltA] at *; simp at *; omega
set_option maxHeartbeats 1000000 in
theorem closure36 (x y : Int × Int) (W : World) : Calls Tryz.prog 104 #[.agg #[.int .i64 x.1, .int .i64 x.2], .agg #[.int .i64 y.1, .int .i64 y.2]] W fun e w' => e = .returned (.int .i64 (Lib.compareInt x.1 y.1)) ∧ ∃ q os', w' = grow (W.drewN q) os' := by
  have hcon := fun W' => AnyG.cmp_Compare_int Tryz.cmpInt x.1 y.1 W'
  change ∀ W', Calls Tryz.prog 105 _ _ _ at hcon
  generalize Lib.compareInt x.1 y.1 = r at hcon ⊢
  go_enter Tryz.func104, Tryz.ntmps104
  go_wp2_with (go_at_call 105; refine (hcon _).mono ?_; rintro e w' ⟨rfl, rfl⟩)
  go_ret
  exact ⟨rfl, 0, _, by rw [alloc_eq_grow, alloc_eq_grow, grow_grow]; rfl⟩
def toP (s : Sp) : Int × Int := (s.a, s.b)
def ofP (p : Int × Int) : Sp := ⟨p.1, p.2⟩
theorem prs_to (l : List Sp) : prs (l.map toP) = sps l := by simp [prs, sps, toP, Sp.cells]
theorem prs_of (l : List (Int × Int)) : prs l = sps (l.map ofP) := by simp [prs, sps, ofP, Sp.cells]
theorem sort35_cc (l t : List Sp) (hl : l.length < 1000000) : ∃ m : List Sp, (∀ x, x ∈ m ↔ x ∈ l) ∧ m.length = l.length ∧ m.Pairwise (fun x y => x.a ≤ y.a) ∧
    ∀ b nm, CallC Tryz.prog 103 [.pre b m.length, .fn 104 []] [(b, .row (sps (l ++ t)) 2 30)] nm (.tup []) [(b, some (.row (sps (m ++ t)) 2 30))] := by
  have hs := sortP_spec (fun x y => Lib.compareInt x.1 y.1) swoA (l.map toP)
  have hlen := sortP_len (fun x y => Lib.compareInt x.1 y.1) swoA (l.map toP)
  have key := fun b nm => sortF_cc Tryz.sortIv (fun w => Tryz.isAgg30 w) (fun w => Tryz.sizeOf30 w) ⟨_, Tryz.func103, by kernel_rfl, by kernel_rfl⟩ (fun x y => Lib.compareInt x.1 y.1) swoA 104 (enters_of Tryz.func104 (by kernel_rfl) rfl) closure36 (l.map toP) (t.map toP) b nm 30 (by simpa using hl)
  refine ⟨(sortP (fun x y => Lib.compareInt x.1 y.1) (l.map toP)).map ofP, fun x => ?_, by simpa using hlen, ?_, fun b nm => ?_⟩
  · rw [List.mem_map]
    constructor
    · rintro ⟨p, hp, rfl⟩
      have := hs.1.mem_iff.1 hp
      obtain ⟨s, hs', rfl⟩ := List.mem_map.1 this
      exact hs'
    · intro hx
      exact ⟨toP x, hs.1.mem_iff.2 (List.mem_map.2 ⟨x, hx, rfl⟩), rfl⟩
  · rw [List.pairwise_map]
    refine hs.2.imp fun {x y} h => ?_
    rw [ltA] at h
    have := of_decide_eq_false h
    show x.1 ≤ y.1
    omega
  · have h := key b nm
    rw [prs_append, prs_to, prs_to, prs_append, prs_of, prs_to] at h
    rw [sps_append l t, sps_append _ t]
    have e1 : ((sortP (fun x y => Lib.compareInt x.1 y.1) (l.map toP)).map ofP).length = (l.map toP).length := by simpa using hlen
    rw [e1]
    exact h
theorem clone33 (l : List Sp) (hl : l.length < 1000000) : PureOwn Tryz.prog 101 [.sl (sps l)] (sps l) 2 30 := by
  have h := clone_of Tryz.cloneSp ⟨_, Tryz.func101, by kernel_rfl, by kernel_rfl⟩ _ _ 2 16 (show Tryz.prog.info? (Tryz.cloneSp_ren.t 23) = some _ from rfl) rfl rfl rfl rfl (by omega) (fun w => Tryz.sizeOf30 w) (sps l) (sps_one l) (by rw [sps_len]; omega)
  exact h
end Go.Proofs
namespace Go.Proofs
open Go Go.Ab
set_option maxHeartbeats 4000000
set_option maxRecDepth 100000
attribute [local irreducible] Awp aops aopsL Go.Ab.Pure PureOwn
/-- A fact that simp leaves alone. -/
def Kept (p : Prop) : Prop := p
theorem Kept.out {p : Prop} (h : Kept p) : p := h
def stepI (acc : List Sp) (s : Sp) : List Sp := if fullB s = true then insS s acc else acc
theorem stepI_spec : ∀ (l acc : List Sp), acc.Pairwise (fun x y => x.a ≤ y.a) → (l.foldl stepI acc).Pairwise (fun x y => x.a ≤ y.a) ∧ ∀ x, x ∈ l.foldl stepI acc ↔ x ∈ acc ∨ x ∈ l.filter fullB
  | [], acc, h => ⟨h, fun x => by simp⟩
  | s :: l, acc, h => by
    rw [List.foldl_cons]
    unfold stepI
    by_cases hf : fullB s = true
    · rw [if_pos hf]
      have k := stepI_spec l (insS s acc) (insS_asc s acc h)
      unfold stepI at k
      refine ⟨k.1, fun x => ?_⟩
      rw [k.2 x, mem_insS, List.filter_cons_of_pos hf, List.mem_cons]
      constructor
      · rintro ((h | h) | h)
        · exact .inr (.inl h)
        · exact .inl h
        · exact .inr (.inr h)
      · rintro (h | h | h)
        · exact .inl (.inr h)
        · exact .inl (.inl h)
        · exact .inr h
    · rw [if_neg hf]
      have k := stepI_spec l acc h
      unfold stepI at k
      refine ⟨k.1, fun x => ?_⟩
      rw [k.2 x, List.filter_cons_of_neg hf]
theorem stepI_len : ∀ (l acc : List Sp), (l.foldl stepI acc).length ≤ acc.length + l.length
  | [], acc => by simp
  | s :: l, acc => by
    have h1 := stepI_len l (stepI acc s)
    have h2 : (stepI acc s).length ≤ acc.length + 1 := by
      unfold stepI
      split
      · have : ∀ l : List Sp, (insS s l).length = l.length + 1 := by
          intro l
          induction l with
          | nil => rfl
          | cons t l ih => unfold insS; split <;> simp [ih]
        rw [this]; omega
      · omega
    rw [List.foldl_cons]
    simp only [List.length_cons]
    omega
def rinL (l : List Sp) : List Sp := l.foldl stepI []
theorem rin_canon (l : List Sp) : mergeS (rinL l) = canon l := by
  have h := stepI_spec l [] List.Pairwise.nil
  exact merge_canon h.1 fun s => by unfold rinL; rw [h.2 s]; simp
theorem rin_len (l : List Sp) : (rinL l).length ≤ l.length := by have := stepI_len l []; simpa [rinL] using this
theorem merge_stepL (l : List Sp) (i : Nat) (h : i < l.length) : mergeS (l.take (i + 1)) = stepM (mergeS (l.take i)) (l.getD i zeroSp) := by
  unfold mergeS
  rw [take_snocP l i h, List.foldl_append]; rfl
theorem merge_len (l : List Sp) : (mergeS l).length ≤ l.length := by have := foldM_len l []; simpa [mergeS] using this
def nmS (m T M : List Sp) (i : Nat) : AState := mkS [(4, .own 3), (13, .pre 2 m.length), (14, .v (.int .i64 m.length)), (15, .v (.int .i64 i))] [(2, .row (sps (m ++ T)) 2 30), (3, .row (sps M) 2 30)]
theorem sps_rep (n : Nat) : sps (List.replicate n zeroSp) = List.replicate n zrow := by simp [sps, zeroSp, Sp.cells, zrow]
theorem normal_ok (l : List Sp) (hl : l.length < 100000) : PureOwn Tryz.prog 86 [.sl (sps l)] (sps (canon l)) 2 30 := by
  have c0 := clone33 l (by omega)
  have hkl : (l.filter fullB).length ≤ l.length := List.length_filter_le _ _
  have c1 := fun nm h => del_cc l nm hl h
  have hdr : delRow l = sps (l.filter fullB ++ List.replicate (l.length - (l.filter fullB).length) zeroSp) := by
    unfold delRow; rw [sps_append, sps_rep]
  rw [hdr] at c1
  obtain ⟨m, hm, hml, hmp, c2⟩ := sort35_cc (l.filter fullB) (List.replicate (l.length - (l.filter fullB).length) zeroSp) (by omega)
  have hcan := merge_canon hmp hm
  rw [← hcan]
  generalize List.replicate (l.length - (l.filter fullB).length) zeroSp = T at *
  rw [← hml] at c1
  have hmb : m.length < 100000 := by omega
  generalize l.filter fullB = F at *
  clear hdr hkl hm hml hmp hcan
  refine fn_own Tryz.F86 (Nat.le_of_ble_eq_true rfl) ?_; unfold Tryz.ac86 AR AM AO
  repeat' (first
 | (apply Awp.sreg; (case hn => (simp only [List.length_cons, List.length_nil, Nat.reduceAdd] <;> rfl)))
 | (refine st_nil ?_)
 | (apply st_a; (case hc => rfl); (case he => (simp only [go_sem, *] <;> rfl)); (case hu => (simp only [updL_nil, updL_cons] <;> rfl)); (case hp => first | trivial))
 | (apply st_co; (case hc => (simp only [go_sem, *] <;> rfl)); (case hl => (simp only [go_sem, *] <;> rfl)); (case hn => (simp only [go_sem, *] <;> rfl)); (case hp => first | exact c0 | (have hXz := c0; simp only [go_sem, *] at hXz; exact hXz)))
 | (apply st_cc; (case hc => (simp only [go_sem, *] <;> rfl)); (case hcc => exact (c1 _ (by omega))); (case hh => (first | (simp only [List.mem_singleton, forall_eq]; first | (simp only [go_sem, *] <;> rfl) | (simp only [go_sem, *]; simp [ints])) | (intro p hp; cases hp; done) | (intro p hp; simp only [List.mem_cons, List.not_mem_nil, or_false] at hp; rcases hp with rfl | rfl | rfl | rfl | rfl | rfl | rfl <;> (simp only [go_sem, *] <;> rfl)) | (intro p hp; simp only [List.mem_cons, List.not_mem_nil, or_false] at hp; rcases hp with rfl | rfl | rfl | rfl <;> (simp only [go_sem, *] <;> rfl)))); (case hu => (first | (simp; done) | decide)); (case hm => (first | decide | (simp; done))); (case hw => (simp only [updL_nil, updL_cons] <;> rfl)))
 | (apply st_cc; (case hc => (simp only [go_sem, *] <;> rfl)); (case hcc => exact (c2 _ _)); (case hh => (first | (simp only [List.mem_singleton, forall_eq]; first | (simp only [go_sem, *] <;> rfl) | (simp only [go_sem, *]; simp [ints])) | (intro p hp; cases hp; done) | (intro p hp; simp only [List.mem_cons, List.not_mem_nil, or_false] at hp; rcases hp with rfl | rfl | rfl | rfl | rfl | rfl | rfl <;> (simp only [go_sem, *] <;> rfl)) | (intro p hp; simp only [List.mem_cons, List.not_mem_nil, or_false] at hp; rcases hp with rfl | rfl | rfl | rfl <;> (simp only [go_sem, *] <;> rfl)))); (case hu => (first | (simp; done) | decide)); (case hm => (first | decide | (simp; done))); (case hw => (simp only [updL_nil, updL_cons] <;> rfl)))
 | refine Awp.block ?_
 | refine Awp.seq ?_)
  clear c0 c1 c2
  refine Awp.loop (fun i : Nat => i ≤ m.length) 200 (fun i => nmS m T (mergeS (m.take i)) i) (fun i => m.length - i) 0 (by omega) ?_ ?_
  · refine Ghost.trans (Ghost.name 4 2 30 rfl (by decide)) ?_
    have e1 : mergeS (m.take 0) = [] := rfl
    rw [e1]
    unfold nmS
    (apply Ghost.mk [(3, 11)] []; (case hdead => rfl); (case hinj => rfl); (case hV => (simp only [go_sem, *]) <;> (repeat' (first | refine And.intro ?_ ?_ | exact View.int (by first | rfl | omega | (simp; done) | (rw [wrap_i64] <;> (try simp only [Int.natCast_add]) <;> omega) | (simp [*]; done)) | exact .own rfl (by decide) | exact .pre rfl (by decide)))); (case hB => (simp only [go_sem, *]) <;> (repeat' (first | refine And.intro ?_ ?_ | exact ⟨_, rfl, .rowE (by first | rfl | omega | (simp; done) | (rw [wrap_i64] <;> (try simp only [Int.natCast_add]) <;> omega) | (simp [*]; done))⟩))))
  · intro i hi
    have hmT : (sps (m ++ T)).length = m.length + T.length := by rw [sps_len]; simp
    by_cases hlt : i < m.length
    · have hlt' : (i : Int) < m.length := by omega
      have hat : (sps (m ++ T)).getD i [] = (m.getD i zeroSp).cells := by
        rw [sps_at _ _ (by simp; omega)]
        congr 1
        simp only [List.getD_eq_getElem?_getD]
        rw [List.getElem?_append_left hlt]
      have hz : ((m.getD i zeroSp).cells).length = 2 := rfl
      have hst := merge_stepL m i hlt
      have hMl : (mergeS (m.take i)).length ≤ i := by have := merge_len (m.take i); simp at this; omega
      generalize mergeS (m.take i) = M at *
      generalize m.getD i zeroSp = s at *
      have esn := sps_snoc M s
      have eon := sps_one M
      have hMn := sps_len M
      by_cases hM : M.length = 0
      · have hn : decide ((0 : Int) < (M.length : Int)) = false := decide_eq_false (by omega)
        unfold stepM at hst
        rw [if_neg (by omega)] at hst
        have hst' : Kept (mergeS (m.take (i + 1)) = M ++ [s]) := hst
        clear hst hM
        unfold nmS
        repeat' (first
 | (apply Awp.sreg; (case hn => (simp only [List.length_cons, List.length_nil, Nat.reduceAdd] <;> rfl)))
 | (apply Awp.sdraw; (case hn => (simp only [List.length_cons, List.length_nil, Nat.reduceAdd] <;> rfl)))
 | (refine st_nil ?_)
 | (apply st_a; (case hc => rfl); (case he => (simp only [go_sem, *] <;> rfl)); (case hu => (simp only [updL_nil, updL_cons] <;> rfl)); (case hp => first | trivial | omega | (simp; done) | (simp; omega)))
 | (apply Awp.reg; (case hn => (simp only [List.length_cons, List.length_nil, Nat.reduceAdd] <;> rfl)))
 | (refine Awp.skip ?_; try simp only [go_sem, *])
 | refine Awp.block ?_
 | (apply Awp.cond; (case hc => (simp only [go_sem, *] <;> rfl)); all_goals (intro hg; (try simp only [Bool.not_true, Bool.not_false, reduceCtorEq] at hg)))
 | refine Awp.seq ?_
 | (apply sl_a; (case hc => rfl); (case he => (simp only [go_sem, *] <;> rfl)); (case hu => (simp only [updL_nil, updL_cons] <;> rfl)); (case hl => (simp only [List.map_cons, List.map_nil] <;> rfl)); (case hp => first | trivial))
 | (apply sl_gn; (case hv => (simp only [go_sem, *] <;> rfl)); (case hbw => rfl))
 | (refine sl_nil (And.intro (by first | exact drawOk_of (by decide +kernel) | (simp only [List.map_cons, List.map_nil]; exact drawOk_of (by decide +kernel)) | decide) ?_)))
        refine ⟨i + 1, by omega, by omega, ?_⟩
        rw [hst'.out]
        (apply Ghost.mk [(3, 224)] []; (case hdead => rfl); (case hinj => rfl); (case hV => (simp only [go_sem, *]) <;> (repeat' (first | refine And.intro ?_ ?_ | exact View.int (by first | rfl | omega | (simp; done) | (rw [wrap_i64] <;> (try simp only [Int.natCast_add]) <;> omega) | (simp [*]; done)) | exact .own rfl (by decide) | exact .pre rfl (by decide)))); (case hB => (simp only [go_sem, *]) <;> (repeat' (first | refine And.intro ?_ ?_ | exact ⟨_, rfl, .rowE (by first | rfl | omega | (simp; done) | (rw [wrap_i64] <;> (try simp only [Int.natCast_add]) <;> omega) | (simp [*]; done))⟩))))
      · obtain ⟨n, hn⟩ : ∃ n : Nat, M.length = n + 1 := ⟨M.length - 1, by omega⟩
        have hw2 : IntKind.i64.wrap ((M.length : Int) - 1) = (n : Int) := by rw [wrap_i64 (by omega) (by omega)]; omega
        have hn0 : decide ((0 : Int) < (M.length : Int)) = true := decide_eq_true (by omega)
        have hnM : n < M.length := by omega
        have hnM' : (n : Int) < M.length := by omega
        have hatn := sps_at M n hnM
        have hzn : ((M.getD n zeroSp).cells).length = 2 := rfl
        unfold stepM at hst
        rw [show M.length - 1 = n by omega] at hst
        by_cases hc : s.a ≤ (M.getD n zeroSp).b
        · rw [if_pos ⟨by omega, hc⟩] at hst
          have hc' : decide (s.a ≤ (M.getD n zeroSp).b) = true := decide_eq_true hc
          have hmx : (if (M.getD n zeroSp).b < s.b then s.b else (M.getD n zeroSp).b) = max (M.getD n zeroSp).b s.b := by
            rw [Int.max_def]; split <;> split <;> omega
          have hfin : (sps M).set n [.v (.int .i64 (M.getD n zeroSp).a), .v (.int .i64 (max (M.getD n zeroSp).b s.b))] = sps (mergeS (m.take (i + 1))) := by
            rw [hst]; exact sps_set M n ⟨(M.getD n zeroSp).a, max (M.getD n zeroSp).b s.b⟩
          generalize M.getD n zeroSp = y at *
          clear hc hn hst hM
          unfold nmS
          repeat' (first
 | (apply Awp.sreg; (case hn => (simp only [List.length_cons, List.length_nil, Nat.reduceAdd] <;> rfl)))
 | (apply Awp.sdraw; (case hn => (simp only [List.length_cons, List.length_nil, Nat.reduceAdd] <;> rfl)))
 | (refine st_nil ?_)
 | (apply st_a; (case hc => rfl); (case he => (simp only [go_sem, *] <;> rfl)); (case hu => (simp only [updL_nil, updL_cons] <;> rfl)); (case hp => first | trivial | omega))
 | (apply Awp.reg; (case hn => (simp only [List.length_cons, List.length_nil, Nat.reduceAdd] <;> rfl)))
 | (refine Awp.skip ?_; try simp only [go_sem, *])
 | refine Awp.block ?_
 | (apply Awp.cond; (case hc => (simp only [go_sem, *] <;> rfl)); all_goals (intro hg; (try simp only [Bool.not_true, Bool.not_false, reduceCtorEq] at hg)))
 | refine Awp.seq ?_
 | (refine Awp.draw ?_)
 | (apply sl_a; (case hc => rfl); (case he => (simp only [go_sem, *] <;> rfl)); (case hu => (simp only [updL_nil, updL_cons] <;> rfl)); (case hl => (simp only [List.map_cons, List.map_nil] <;> rfl)); (case hp => first | trivial | omega | (simp; done)))
 | (apply sl_ga; (case hb => rfl); (case hv => (simp only [go_sem, *] <;> rfl)); (case he => (simp only [go_sem, *] <;> rfl)); (case hu => (simp only [updL_nil, updL_cons] <;> rfl)); (case hl => (simp only [List.map_cons, List.map_nil] <;> rfl)); (case hp => first | trivial | omega))
 | (refine sl_nil (And.intro (by first | exact drawOk_of (by decide +kernel) | (simp only [List.map_cons, List.map_nil]; exact drawOk_of (by decide +kernel)) | decide) ?_)))
          refine ⟨i + 1, by omega, by omega, ?_⟩
          (apply Ghost.mk [] []; (case hdead => rfl); (case hinj => rfl); (case hV => (simp only [go_sem, *]) <;> (repeat' (first | refine And.intro ?_ ?_ | exact View.int (by first | rfl | exact hfin | omega | (simp; done) | (rw [wrap_i64] <;> (try simp only [Int.natCast_add]) <;> omega) | (simp [*]; done)) | exact .own rfl (by decide) | exact .pre rfl (by decide)))); (case hB => (simp only [go_sem, *]) <;> (repeat' (first | refine And.intro ?_ ?_ | exact ⟨_, rfl, .rowE (by first | rfl | exact hfin | omega | (simp; done) | (rw [wrap_i64] <;> (try simp only [Int.natCast_add]) <;> omega) | (simp [*]; done))⟩))))
        · rw [if_neg (fun h => hc h.2)] at hst
          have hst' : Kept (mergeS (m.take (i + 1)) = M ++ [s]) := hst
          have hc' : decide (s.a ≤ (M.getD n zeroSp).b) = false := decide_eq_false hc
          generalize M.getD n zeroSp = y at *
          clear hc hn hM hst
          unfold nmS
          repeat' (first
 | (apply Awp.sreg; (case hn => (simp only [List.length_cons, List.length_nil, Nat.reduceAdd] <;> rfl)))
 | (apply Awp.sdraw; (case hn => (simp only [List.length_cons, List.length_nil, Nat.reduceAdd] <;> rfl)))
 | (refine st_nil ?_)
 | (apply st_a; (case hc => rfl); (case he => (simp only [go_sem, *] <;> rfl)); (case hu => (simp only [updL_nil, updL_cons] <;> rfl)); (case hp => first | trivial | omega | (simp; done) | (simp; omega)))
 | (apply Awp.reg; (case hn => (simp only [List.length_cons, List.length_nil, Nat.reduceAdd] <;> rfl)))
 | (refine Awp.skip ?_; try simp only [go_sem, *])
 | refine Awp.block ?_
 | (apply Awp.cond; (case hc => (simp only [go_sem, *] <;> rfl)); all_goals (intro hg; (try simp only [Bool.not_true, Bool.not_false, reduceCtorEq] at hg)))
 | refine Awp.seq ?_
 | (apply sl_a; (case hc => rfl); (case he => (simp only [go_sem, *] <;> rfl)); (case hu => (simp only [updL_nil, updL_cons] <;> rfl)); (case hl => (simp only [List.map_cons, List.map_nil] <;> rfl)); (case hp => first | trivial))
 | (apply sl_ga; (case hb => rfl); (case hv => (simp only [go_sem, *] <;> rfl)); (case he => (simp only [go_sem, *] <;> rfl)); (case hu => (simp only [updL_nil, updL_cons] <;> rfl)); (case hl => (simp only [List.map_cons, List.map_nil] <;> rfl)); (case hp => first | trivial | omega))
 | (refine sl_nil (And.intro (by first | exact drawOk_of (by decide +kernel) | (simp only [List.map_cons, List.map_nil]; exact drawOk_of (by decide +kernel)) | decide) ?_)))
          refine ⟨i + 1, by omega, by omega, ?_⟩
          rw [hst'.out]
          (apply Ghost.mk [(3, 224)] []; (case hdead => rfl); (case hinj => rfl); (case hV => (simp only [go_sem, *]) <;> (repeat' (first | refine And.intro ?_ ?_ | exact View.int (by first | rfl | omega | (simp; done) | (rw [wrap_i64] <;> (try simp only [Int.natCast_add]) <;> omega) | (simp [*]; done)) | exact .own rfl (by decide) | exact .pre rfl (by decide)))); (case hB => (simp only [go_sem, *]) <;> (repeat' (first | refine And.intro ?_ ?_ | exact ⟨_, rfl, .rowE (by first | rfl | omega | (simp; done) | (rw [wrap_i64] <;> (try simp only [Int.natCast_add]) <;> omega) | (simp [*]; done))⟩))))
    · have hlt' : ¬ (i : Int) < m.length := by omega
      have e1 : m.take i = m := List.take_of_length_le (by omega)
      rw [e1]
      unfold nmS
      repeat' (first
 | (apply Awp.sreg; (case hn => (simp only [List.length_cons, List.length_nil, Nat.reduceAdd] <;> rfl)))
 | (refine st_nil ?_)
 | (apply st_a; (case hc => rfl); (case he => (simp only [go_sem, *] <;> rfl)); (case hu => (simp only [updL_nil, updL_cons] <;> rfl)); (case hp => first | trivial))
 | (refine Awp.ret ?_; try simp only [go_sem, *])
 | (refine Awp.exit ?_; try simp only [go_sem, *])
 | (apply Awp.cond; (case hc => (simp only [go_sem, *] <;> rfl)); all_goals (intro hg; (try simp only [Bool.not_true, Bool.not_false, reduceCtorEq] at hg)))
 | refine Awp.seq ?_)
      exact ⟨_, rfl, rfl⟩
end Go.Proofs
