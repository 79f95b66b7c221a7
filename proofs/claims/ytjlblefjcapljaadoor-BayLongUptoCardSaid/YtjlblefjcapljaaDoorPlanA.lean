import Derived.Test.YtjlblefjcapljaaDoorWalkD
section
set_option linter.unusedVariables false
set_option linter.unusedSimpArgs false
namespace Go.Proofs
open Go Go.Ab
set_option linter.unusedSimpArgs false
set_option linter.unusedVariables false
theorem exists_floor (n : Int) : ∀ (L : List Int), (∃ a ∈ L, a ≤ n) → ∃ a ∈ L, a ≤ n ∧ ∀ b ∈ L, b ≤ n → b ≤ a
  | [], h => by obtain ⟨a, ha, _⟩ := h; simp at ha
  | c :: L, h => by
    by_cases hL : ∃ a ∈ L, a ≤ n
    · obtain ⟨a, ha, hn, hm⟩ := exists_floor n L hL
      by_cases hc : c ≤ n ∧ a ≤ c
      · exact ⟨c, by simp, hc.1, fun b hb hbn => by
          rcases List.mem_cons.1 hb with rfl | hb
          · exact Int.le_refl _
          · have := hm b hb hbn; omega⟩
      · exact ⟨a, by simp [ha], hn, fun b hb hbn => by
          rcases List.mem_cons.1 hb with rfl | hb
          · omega
          · exact hm b hb hbn⟩
    · obtain ⟨a, ha, hn⟩ := h
      rcases List.mem_cons.1 ha with rfl | ha
      · exact ⟨a, by simp, hn, fun b hb hbn => by
          rcases List.mem_cons.1 hb with rfl | hb
          · exact Int.le_refl _
          · exact absurd ⟨b, hb, hbn⟩ hL⟩
      · exact absurd ⟨a, ha, hn⟩ hL
theorem mem_cs (L : List Int) (Y : Int) : Y ∈ Lib.compact (sortI L) ↔ Y ∈ L := by
  show Y ∈ Lib.compact (sortZ L) ↔ Y ∈ L
  exact ((compact_sorted (sortZ L) (sortZ_asc _)).2 Y).trans (mem_sortZ _ _)
theorem starts_lt (l : List Sty) (fr : Int) : (startsZ l fr).Pairwise (· < ·) := by
  show (Lib.compact (sortZ (endsL l fr))).Pairwise (· < ·)
  exact (compact_sorted (sortZ _) (sortZ_asc _)).1
theorem mem_starts (l : List Sty) (fr t : Int) : t ∈ startsZ l fr ↔ t = fr ∨ ∃ q ∈ l, fr < q.b ∧ q.b = t := by
  unfold startsZ
  rw [mem_cs]
  unfold endsL
  simp only [List.mem_cons, List.mem_map, List.mem_filter, decide_eq_true_eq, and_assoc]
theorem mem_low (l : List Sty) (x : Sty) (Y : Int) : Y ∈ lowL l x ↔ Y = 0 ∨ ∃ q ∈ l, nearB x q = true ∧ IntKind.i64.wrap (q.y + q.wid) = Y := by
  unfold lowL nearL
  simp only [List.mem_cons, List.mem_map, List.mem_filter, and_assoc]
theorem mem_left (l : List Sty) (x : Sty) (Y : Int) : Y ∈ leftL l x ↔ Y = 0 ∨ ∃ q ∈ l, nearB x q = true ∧ IntKind.i64.wrap (q.x + q.len) = Y := by
  unfold leftL nearL
  simp only [List.mem_cons, List.mem_map, List.mem_filter, and_assoc]
theorem over_near {x q : Sty} {X Y : Int} (h : overB (x.at_ X Y) q = true) : nearB x q = true := by
  unfold overB Sty.at_ at h
  unfold nearB
  simp only [Bool.and_eq_true, decide_eq_true_eq, beq_iff_eq] at h ⊢
  exact ⟨⟨h.1.1.1.1.symm, h.1.1.1.2⟩, h.1.1.2⟩
theorem place_stay (bs : List By) (l : List Sty) (x : Sty) (X Y : Int) : placeB bs l x X Y = true ↔ stayE bs l (x.at_ X Y) = 0 := by
  unfold placeB
  rw [beq_iff_eq, stayE_zero, stayE_zero]
  refine and_congr_right fun _ => ⟨fun h q hq => ?_, fun h q hq => h q (List.mem_filter.1 hq).1⟩
  cases ho : overB (x.at_ X Y) q
  · rfl
  · rw [← ho]; exact h q (List.mem_filter.2 ⟨hq, over_near ho⟩)
theorem scanE_some {P : Int → Int → Bool} {lw c : List Int} {o : Int × Int} (h : scanE P lw c = some o) : P o.1 o.2 = true := by
  unfold scanE at h
  obtain ⟨y, hy, hf⟩ := List.exists_of_findSome?_eq_some h
  cases hg : c.find? (fun x => P x y) with
  | none => rw [hg] at hf; simp at hf
  | some z =>
    rw [hg] at hf
    simp only [Option.map_some, Option.some.injEq] at hf
    subst hf
    exact List.find?_some (p := fun x => P x y) hg
theorem scanE_is {P : Int → Int → Bool} {lw c : List Int} {X Y : Int} (hX : X ∈ c) (hY : Y ∈ lw) (h : P X Y = true) : ∃ o, scanE P lw c = some o := by
  unfold scanE
  have : (lw.findSome? fun y => (c.find? fun x => P x y).map fun x => (x, y)).isSome = true := by
    rw [List.findSome?_isSome_iff]
    refine ⟨Y, hY, ?_⟩
    rw [Option.isSome_map, List.find?_isSome]
    exact ⟨X, hX, h⟩
  exact Option.isSome_iff_exists.1 this
theorem bay_wid {bs : List By} (h : baysOk bs) {nm : ByteArray} (hf : (findB bs nm).2 = true) : 1 ≤ (findB bs nm).1.len ∧ (findB bs nm).1.len ≤ 524288 ∧ 1 ≤ (findB bs nm).1.wid ∧ (findB bs nm).1.wid ≤ 524288 := by
  unfold findB at hf ⊢
  split at hf
  · simp at hf
  · rename_i hi
    rw [if_neg hi]
    dsimp only
    unfold idxF at hi ⊢
    split at hi
    · rename_i hlt
      rw [if_pos hlt]
      have hb := h.2 _ hlt
      rw [Int.toNat_natCast]
      generalize bs.findIdx _ = i at *
      unfold bayAt sideB at hb
      generalize bs.getD i zeroBy = q at *
      split at hb
      · simp at hb
      · split at hb
        · simp at hb
        · rename_i h2
          simp only [Bool.or_eq_true, Bool.not_eq_true', Bool.and_eq_false_iff, decide_eq_false_iff_not, not_or, Classical.not_not] at h2
          omega
    · simp at hi
theorem good_box {bs : List By} (hb : baysOk bs) {x : Sty} (h : good bs x = true) : 1 ≤ x.len ∧ 1 ≤ x.wid ∧ 0 ≤ x.x ∧ 0 ≤ x.y ∧ x.x + x.len ≤ (findB bs x.bay).1.len ∧ x.y + x.wid ≤ (findB bs x.bay).1.wid ∧ x.x + x.len ≤ 524288 ∧ x.y + x.wid ≤ 524288 ∧ 0 ≤ x.a ∧ x.a < x.b ∧ x.b ≤ 1048576 ∧ (findB bs x.bay).2 = true ∧ idB x.item = true := by
  unfold good at h
  simp only [Bool.and_eq_true, Bool.not_eq_true'] at h
  obtain ⟨⟨⟨h1, h2⟩, h3⟩, h4⟩ := h
  have hw := bay_wid hb h2
  unfold rngB sideB at h3
  unfold offB at h4
  generalize (findB bs x.bay).1 = q at *
  simp only [Bool.or_eq_false_iff, Bool.not_eq_false', Bool.and_eq_true, decide_eq_true_eq, decide_eq_false_iff_not] at h3 h4
  have e1 : IntKind.i64.wrap (q.len - x.len) = q.len - x.len := wrap_i64 (by omega) (by omega)
  have e2 : IntKind.i64.wrap (q.wid - x.wid) = q.wid - x.wid := wrap_i64 (by omega) (by omega)
  rw [e1, e2] at h4
  refine ⟨by omega, by omega, by omega, by omega, by omega, by omega, by omega, by omega, by omega, by omega, by omega, h2, h1⟩
theorem good_iff {bs : List By} (hb : baysOk bs) {x : Sty} : good bs x = true ↔ idB x.item = true ∧ (findB bs x.bay).2 = true ∧ 1 ≤ x.len ∧ 1 ≤ x.wid ∧ x.len ≤ 524288 ∧ x.wid ≤ 524288 ∧ 0 ≤ x.x ∧ 0 ≤ x.y ∧ x.x + x.len ≤ (findB bs x.bay).1.len ∧ x.y + x.wid ≤ (findB bs x.bay).1.wid ∧ 0 ≤ x.a ∧ x.a < x.b ∧ x.b ≤ 1048576 := by
  constructor
  · intro h
    obtain ⟨a1, a2, a3, a4, a5, a6, a7, a8, a9, a10, a11, a12, a13⟩ := good_box hb h
    exact ⟨a13, a12, a1, a2, by omega, by omega, a3, a4, a5, a6, a9, a10, a11⟩
  · rintro ⟨h1, h2, h3⟩
    have hw := bay_wid hb h2
    unfold good
    rw [h1, h2]
    unfold rngB sideB offB
    generalize (findB bs x.bay).1 = q at *
    have e1 : IntKind.i64.wrap (q.len - x.len) = q.len - x.len := wrap_i64 (by omega) (by omega)
    have e2 : IntKind.i64.wrap (q.wid - x.wid) = q.wid - x.wid := wrap_i64 (by omega) (by omega)
    rw [e1, e2]
    simp only [Bool.and_eq_true, Bool.or_eq_false_iff, Bool.not_eq_true', Bool.not_eq_false', decide_eq_true_eq, decide_eq_false_iff_not, true_and]
    omega
theorem cutB_plain {a la b lb : Int} (h1 : 0 ≤ a) (h2 : a + la ≤ 1048576) (h3 : 0 ≤ la) (h4 : 0 ≤ b) (h5 : b + lb ≤ 1048576) (h6 : 0 ≤ lb) : cutB a la b lb = true ↔ a < b + lb ∧ b < a + la := by
  unfold cutB
  rw [wrap_i64 (n := b + lb) (by omega) (by omega), wrap_i64 (n := a + la) (by omega) (by omega)]
  simp only [Bool.and_eq_true, decide_eq_true_eq]
theorem over_iff {bs : List By} (hb : baysOk bs) {p q : Sty} (hp : good bs p = true) (hq : good bs q = true) : overB p q = true ↔ p.bay.toList = q.bay.toList ∧ p.a < q.b ∧ q.a < p.b ∧ p.x < q.x + q.len ∧ q.x < p.x + p.len ∧ p.y < q.y + q.wid ∧ q.y < p.y + p.wid := by
  have g1 := good_box hb hp
  have g2 := good_box hb hq
  unfold overB
  simp only [Bool.and_eq_true, beq_iff_eq, decide_eq_true_eq]
  rw [cutB_plain (by omega) (by omega) (by omega) (by omega) (by omega) (by omega), cutB_plain (by omega) (by omega) (by omega) (by omega) (by omega) (by omega)]
  constructor
  · rintro ⟨⟨⟨⟨h1, h2⟩, h3⟩, h4, h5⟩, h6, h7⟩; exact ⟨h1, h2, h3, h4, h5, h6, h7⟩
  · rintro ⟨h1, h2, h3, h4, h5, h6, h7⟩; exact ⟨⟨⟨⟨h1, h2⟩, h3⟩, h4, h5⟩, h6, h7⟩
theorem spot_complete {bs : List By} {l : List Sty} {x : Sty} {X Y : Int} (hC : checkE bs l = 0) (h : stayE bs l (x.at_ X Y) = 0) : (spotE bs l x).2 = true := by
  have hC' := (checkE_iff bs l).1 hC
  have hb := hC'.1
  have hg := hC'.2.2.1
  have h' := (stayE_zero _ _ _).1 h
  have hgx := (good_iff hb).1 h'.1
  simp only [Sty.at_] at hgx
  obtain ⟨y0, hy0, hyY, hym⟩ := exists_floor Y (lowL l x) ⟨0, (mem_low _ _ _).2 (.inl rfl), by omega⟩
  have hy0p : 0 ≤ y0 := by
    rcases (mem_low _ _ _).1 hy0 with rfl | ⟨q, hq, _, rfl⟩
    · omega
    · have := good_box hb (hg q hq)
      rw [wrap_i64 (by omega) (by omega)]; omega
  have s1 : stayE bs l (x.at_ X y0) = 0 := by
    have g1 : good bs (x.at_ X y0) = true := (good_iff hb).2 (by simp only [Sty.at_]; exact ⟨hgx.1, hgx.2.1, by omega⟩)
    rw [stayE_zero]
    refine ⟨g1, fun q hq => ?_⟩
    cases ho : overB (x.at_ X y0) q
    · rfl
    · exfalso
      have gq := hg q hq
      have gb := good_box hb gq
      have hn := over_near ho
      have ho := (over_iff hb g1 gq).1 ho
      have hn2 : ¬ _ := fun hh => by have := (over_iff hb h'.1 gq).2 hh; rw [h'.2 q hq] at this; cases this
      simp only [Sty.at_] at ho hn2
      have hlow : q.y + q.wid ∈ lowL l x := (mem_low _ _ _).2 (.inr ⟨q, hq, hn, wrap_i64 (by omega) (by omega)⟩)
      by_cases hc : q.y + q.wid ≤ Y
      · have := hym _ hlow hc; omega
      · exact hn2 ⟨ho.1, by omega⟩
  have h1' := (stayE_zero _ _ _).1 s1
  obtain ⟨x0, hx0, hxX, hxm⟩ := exists_floor X (leftL l x) ⟨0, (mem_left _ _ _).2 (.inl rfl), by omega⟩
  have hx0p : 0 ≤ x0 := by
    rcases (mem_left _ _ _).1 hx0 with rfl | ⟨q, hq, _, rfl⟩
    · omega
    · have := good_box hb (hg q hq)
      rw [wrap_i64 (by omega) (by omega)]; omega
  have s2 : stayE bs l (x.at_ x0 y0) = 0 := by
    have g1 : good bs (x.at_ x0 y0) = true := (good_iff hb).2 (by simp only [Sty.at_]; exact ⟨hgx.1, hgx.2.1, by omega⟩)
    rw [stayE_zero]
    refine ⟨g1, fun q hq => ?_⟩
    cases ho : overB (x.at_ x0 y0) q
    · rfl
    · exfalso
      have gq := hg q hq
      have gb := good_box hb gq
      have hn := over_near ho
      have ho := (over_iff hb g1 gq).1 ho
      have hn2 : ¬ _ := fun hh => by have := (over_iff hb h1'.1 gq).2 hh; rw [h1'.2 q hq] at this; cases this
      simp only [Sty.at_] at ho hn2
      have hlow : q.x + q.len ∈ leftL l x := (mem_left _ _ _).2 (.inr ⟨q, hq, hn, wrap_i64 (by omega) (by omega)⟩)
      by_cases hc : q.x + q.len ≤ X
      · have := hxm _ hlow hc; omega
      · exact hn2 ⟨ho.1, by omega⟩
  obtain ⟨o, ho⟩ := scanE_is (P := placeB bs l x) ((mem_cs _ _).2 hx0) ((mem_cs _ _).2 hy0) ((place_stay _ _ _ _ _).2 s2)
  unfold spotE
  rw [ho]
theorem spot_sound {bs : List By} {l : List Sty} {x : Sty} (h : (spotE bs l x).2 = true) : ∃ X Y, (spotE bs l x).1 = x.at_ X Y ∧ stayE bs l (x.at_ X Y) = 0 := by
  unfold spotE at h ⊢
  cases hs : scanE (placeB bs l x) (Lib.compact (sortI (lowL l x))) (Lib.compact (sortI (leftL l x))) with
  | none => rw [hs] at h; simp at h
  | some o => exact ⟨o.1, o.2, rfl, (place_stay _ _ _ _ _).1 (scanE_some hs)⟩
theorem fit_sound {bs : List By} {l : List Sty} {x y : Sty} {h : Int} (hf : fitS bs l x h = some y) : ∃ t q X Y, t ∈ startsZ l x.a ∧ q ∈ bs ∧ y = (x.when q.nm t (IntKind.i64.wrap (t + h))).at_ X Y ∧ stayE bs l y = 0 := by
  unfold fitS at hf
  obtain ⟨t, ht, hf⟩ := List.exists_of_findSome?_eq_some hf
  obtain ⟨q, hq, hf⟩ := List.exists_of_findSome?_eq_some hf
  unfold tryB at hf
  split at hf
  · rename_i hs
    obtain ⟨X, Y, e, hst⟩ := spot_sound hs
    simp only [Option.some.injEq] at hf
    subst hf
    exact ⟨t, q, X, Y, ht, hq, e, by rw [e]; exact hst⟩
  · cases hf
theorem findB_mem {bs : List By} {nm : ByteArray} (hf : (findB bs nm).2 = true) : ∃ q ∈ bs, q.nm.toList = nm.toList := by
  unfold findB at hf
  split at hf
  · simp at hf
  · rename_i hi
    unfold idxF at hi
    split at hi
    · rename_i hlt
      refine ⟨bs[bs.findIdx (fun q : By => q.nm.toList == nm.toList)], List.getElem_mem _, ?_⟩
      have := List.findIdx_getElem (xs := bs) (p := fun q : By => q.nm.toList == nm.toList) (w := hlt)
      simpa using this
    · simp at hi
theorem toList_inj {a b : ByteArray} (h : a.toList = b.toList) : a = b := by
  have e : ∀ c : ByteArray, c.toList = c.data.toList := fun c => by
    rw [ByteArray.toList_eq]
  rw [e, e] at h
  obtain ⟨a⟩ := a; obtain ⟨b⟩ := b; obtain ⟨a⟩ := a; obtain ⟨b⟩ := b
  simp only at h
  rw [h]
theorem find_sorted {f : Int → Option Sty} {t0 : Int} : ∀ {L : List Int}, L.Pairwise (· < ·) → t0 ∈ L → (f t0).isSome = true → (∀ t y, f t = some y → y.a = t) → ∃ y, L.findSome? f = some y ∧ y.a ≤ t0
  | [], _, h, _, _ => by simp at h
  | a :: L, hp, hm, hf, hy => by
    rw [List.findSome?_cons]
    cases ha : f a with
    | some y =>
      refine ⟨y, rfl, ?_⟩
      rw [hy a y ha]
      rcases List.mem_cons.1 hm with rfl | hm
      · exact Int.le_refl _
      · exact Int.le_of_lt ((List.pairwise_cons.1 hp).1 _ hm)
    | none =>
      rcases List.mem_cons.1 hm with rfl | hm
      · rw [ha] at hf; simp at hf
      · exact find_sorted (List.pairwise_cons.1 hp).2 hm hf hy
theorem fit_complete {bs : List By} {l : List Sty} {x : Sty} {h T X Y : Int} {nm : ByteArray} (hC : checkE bs l = 0) (hr : fitR x h = false) (hT : x.a ≤ T) (hT2 : T ≤ 1048576)
    (hs : stayE bs l ((x.when nm T (IntKind.i64.wrap (T + h))).at_ X Y) = 0) : ∃ y, fitS bs l x h = some y ∧ y.a ≤ T := by
  have hC' := (checkE_iff bs l).1 hC
  have hb := hC'.1
  have hg := hC'.2.2.1
  have h' := (stayE_zero _ _ _).1 hs
  have hR : 1 ≤ h ∧ h ≤ 1048576 ∧ 0 ≤ x.a := by
    unfold fitR at hr
    simp only [Bool.or_eq_false_iff, decide_eq_false_iff_not] at hr
    omega
  have hgx := (good_iff hb).1 h'.1
  simp only [Sty.at_, Sty.when] at hgx
  rw [wrap_i64 (n := T + h) (by omega) (by omega)] at hgx
  obtain ⟨t, ht, htT, htm⟩ := exists_floor T (startsZ l x.a) ⟨x.a, (mem_starts _ _ _).2 (.inl rfl), hT⟩
  have htx : x.a ≤ t := by
    rcases (mem_starts _ _ _).1 ht with rfl | ⟨q, _, hq, rfl⟩ <;> omega
  have st : stayE bs l ((x.when nm t (IntKind.i64.wrap (t + h))).at_ X Y) = 0 := by
    have g1 : good bs ((x.when nm t (IntKind.i64.wrap (t + h))).at_ X Y) = true := (good_iff hb).2 (by
      simp only [Sty.at_, Sty.when]
      rw [wrap_i64 (n := t + h) (by omega) (by omega)]
      exact ⟨hgx.1, hgx.2.1, by omega⟩)
    rw [stayE_zero]
    refine ⟨g1, fun q hq => ?_⟩
    cases ho : overB ((x.when nm t (IntKind.i64.wrap (t + h))).at_ X Y) q
    · rfl
    · exfalso
      have gq := hg q hq
      have gb := good_box hb gq
      have ho := (over_iff hb g1 gq).1 ho
      have hn2 : ¬ _ := fun hh => by have := (over_iff hb h'.1 gq).2 hh; rw [h'.2 q hq] at this; cases this
      simp only [Sty.at_, Sty.when] at ho hn2
      rw [wrap_i64 (n := t + h) (by omega) (by omega)] at ho
      rw [wrap_i64 (n := T + h) (by omega) (by omega)] at hn2
      by_cases hc : q.b ≤ T
      · have := htm q.b ((mem_starts _ _ _).2 (.inr ⟨q, hq, by omega, rfl⟩)) hc; omega
      · exact hn2 ⟨ho.1, by omega⟩
  obtain ⟨q, hq, hqn⟩ := findB_mem hgx.2.1
  have hqn := toList_inj hqn
  subst hqn
  have sc := spot_complete hC st
  refine (fun hh => hh.elim fun y k => ⟨y, k.1, Int.le_trans k.2 htT⟩ : (∃ y, fitS bs l x h = some y ∧ y.a ≤ t) → _) (find_sorted (starts_lt l x.a) ht ?_ ?_)
  · rw [List.findSome?_isSome_iff]
    refine ⟨q, hq, ?_⟩
    unfold tryB
    rw [if_pos sc]
    rfl
  · intro t y hty
    obtain ⟨q, hq, hf⟩ := List.exists_of_findSome?_eq_some hty
    unfold tryB at hf
    split at hf
    · rename_i hs
      obtain ⟨X, Y, e, hst⟩ := spot_sound hs
      simp only [Option.some.injEq] at hf
      subst hf
      rw [e]
      rfl
    · cases hf
end Go.Proofs
end
