import Derived.Test.YtpphgheahpiniaaPXG
section
set_option linter.unusedVariables false
set_option linter.unusedSimpArgs false
namespace Go.Proofs
open Go Go.Ab
set_option maxHeartbeats 8000000
set_option maxRecDepth 100000
set_option linter.unusedSimpArgs false
set_option linter.unusedVariables false
attribute [local irreducible] Awp aops aopsL Go.Ab.Pure PureOwn

def Bef (x y : Sk) : Prop := x.p.toList < y.p.toList ∨ (x.p.toList = y.p.toList ∧ x.b ≤ y.a)
theorem skE_iff (l : List Sk) : skE l = 0 ↔ (∀ x ∈ l, nameB x.p = true ∧ 0 ≤ x.a ∧ x.a < x.b ∧ x.b ≤ 1048576) ∧ l.Pairwise Bef := by
  have key : ∀ i, skAt l i = 0 ↔ (nameB (l.getD i zeroSk).p = true ∧ (0 ≤ (l.getD i zeroSk).a ∧ (l.getD i zeroSk).a < (l.getD i zeroSk).b ∧ (l.getD i zeroSk).b ≤ 1048576)) ∧ ordAt l i = false := fun i => by
    unfold skAt rngS
    cases nameB (l.getD i zeroSk).p
    · simp
    · have e : ((decide ((l.getD i zeroSk).a < 0) || decide ((l.getD i zeroSk).b ≤ (l.getD i zeroSk).a) || decide (1048576 < (l.getD i zeroSk).b)) = true) ↔ ¬ (0 ≤ (l.getD i zeroSk).a ∧ (l.getD i zeroSk).a < (l.getD i zeroSk).b ∧ (l.getD i zeroSk).b ≤ 1048576) := by
        simp only [Bool.or_eq_true, decide_eq_true_eq]; omega
      rw [if_neg (by simp)]
      by_cases h : (0 ≤ (l.getD i zeroSk).a ∧ (l.getD i zeroSk).a < (l.getD i zeroSk).b ∧ (l.getD i zeroSk).b ≤ 1048576)
      · rw [if_neg (fun k => e.1 k h)]
        cases ordAt l i
        · exact ⟨fun _ => ⟨⟨rfl, h⟩, rfl⟩, fun _ => rfl⟩
        · simp
      · rw [if_pos (e.2 h)]
        constructor
        · intro k; exact absurd k (by decide)
        · intro k; exact absurd k.1.2 h
  have kord : ∀ i, i + 1 < l.length → (ordAt l (i + 1) = false ↔ Bef (l.getD i zeroSk) (l.getD (i + 1) zeroSk)) := fun i hi => by
    unfold ordAt ordS Bef
    rw [Nat.add_sub_cancel, decide_eq_true (Nat.succ_pos i), Bool.true_and, Bool.or_eq_false_iff]
    rcases lex_tri (l.getD i zeroSk).p.toList (l.getD (i + 1) zeroSk).p.toList with k | k | k
    · have h1 : strLess (l.getD (i + 1) zeroSk).p (l.getD i zeroSk).p = false := by
        rw [Bool.eq_false_iff]; intro h; rw [strLess_iff] at h; exact List.lt_irrefl _ (List.lt_trans h k)
      have h2 : ((l.getD (i + 1) zeroSk).p.toList == (l.getD i zeroSk).p.toList) = false := by
        rw [Bool.eq_false_iff]; intro h; rw [beq_iff_eq] at h; rw [h] at k; exact List.lt_irrefl _ k
      rw [h1, h2]
      exact ⟨fun _ => .inl k, fun _ => ⟨rfl, rfl⟩⟩
    · have h1 : strLess (l.getD (i + 1) zeroSk).p (l.getD i zeroSk).p = false := by
        rw [Bool.eq_false_iff]; intro h; rw [strLess_iff, k] at h; exact List.lt_irrefl _ h
      have h2 : ((l.getD (i + 1) zeroSk).p.toList == (l.getD i zeroSk).p.toList) = true := by rw [beq_iff_eq]; exact k.symm
      rw [h1, h2, Bool.true_and, decide_eq_false_iff_not]
      constructor
      · rintro ⟨_, h⟩; exact .inr ⟨k, by omega⟩
      · rintro (h | h)
        · rw [k] at h; exact absurd h (List.lt_irrefl _)
        · exact ⟨rfl, by omega⟩
    · have h1 : strLess (l.getD (i + 1) zeroSk).p (l.getD i zeroSk).p = true := by rw [strLess_iff]; exact k
      rw [h1]
      constructor
      · rintro ⟨h, _⟩; cases h
      · rintro (h | h)
        · exact absurd (List.lt_trans h k) (List.lt_irrefl _)
        · rw [h.1] at k; exact absurd k (List.lt_irrefl _)
  have k0 : ordAt l 0 = false := by unfold ordAt; simp
  unfold skE
  rw [firstE_zero]
  constructor
  · intro h
    have hr : ∀ x ∈ l, nameB x.p = true ∧ 0 ≤ x.a ∧ x.a < x.b ∧ x.b ≤ 1048576 := fun x hx => by
      obtain ⟨i, hi, rfl⟩ := List.getElem_of_mem hx
      have := ((key i).1 (h i hi)).1
      rw [getD_get l zeroSk i hi] at this
      exact this
    refine ⟨hr, ?_⟩
    rw [List.pairwise_iff_getElem]
    intro i j hi hj hij
    obtain ⟨d, rfl⟩ : ∃ d, j = i + 1 + d := ⟨j - (i + 1), by omega⟩
    induction d with
    | zero =>
      have := (kord i hj).1 ((key (i + 1)).1 (h (i + 1) hj)).2
      rw [getD_get l zeroSk i hi, getD_get l zeroSk (i + 1) hj] at this
      exact this
    | succ d ih =>
      have h1 := ih (by omega) (by omega)
      have h2 := (kord (i + 1 + d) (by omega)).1 ((key (i + 1 + d + 1)).1 (h _ (by omega))).2
      rw [getD_get l zeroSk (i + 1 + d) (by omega), getD_get l zeroSk (i + 1 + d + 1) (by omega)] at h2
      have h3 := hr _ (List.getElem_mem (show i + 1 + d < l.length by omega))
      show Bef l[i] l[i + 1 + d + 1]
      unfold Bef at h1 h2 ⊢
      rcases h1 with h1 | h1 <;> rcases h2 with h2 | h2
      · exact .inl (List.lt_trans h1 h2)
      · exact .inl (by rw [← h2.1]; exact h1)
      · exact .inl (by rw [h1.1]; exact h2)
      · exact .inr ⟨h1.1.trans h2.1, by omega⟩
  · rintro ⟨hr, hp⟩ i hi
    have h1 := hr _ (List.getElem_mem hi)
    rw [← getD_get l zeroSk i hi] at h1
    refine (key i).2 ⟨h1, ?_⟩
    match i, hi with
    | 0, _ => exact k0
    | i + 1, hi =>
      rw [kord i hi, getD_get l zeroSk i (by omega), getD_get l zeroSk (i + 1) hi]
      exact List.pairwise_iff_getElem.1 hp i (i + 1) (by omega) hi (by omega)
theorem bef_key {x y : Sk} (hx : x.a < x.b) (h : Bef x y) : keyLt x y = true := by
  rw [keyLt_iff]
  unfold Bef at h
  rcases h with h | h
  · exact .inl h
  · exact .inr ⟨h.1, by omega⟩
theorem pair_or {α : Type} {R : α → α → Prop} {l : List α} (h : l.Pairwise R) {x y : α} (hx : x ∈ l) (hy : y ∈ l) (hn : x ≠ y) : R x y ∨ R y x := by
  induction l with
  | nil => cases hx
  | cons z l ih =>
    have hp := List.pairwise_cons.1 h
    rcases List.mem_cons.1 hx with rfl | hx'
    · rcases List.mem_cons.1 hy with rfl | hy'
      · exact absurd rfl hn
      · exact .inl (hp.1 y hy')
    · rcases List.mem_cons.1 hy with rfl | hy'
      · exact .inr (hp.1 x hx')
      · exact ih hp.2 hx' hy'
theorem key_bef {l : List Sk} (hr : ∀ x ∈ l, x.a < x.b) (h : l.Pairwise Bef) {x y : Sk} (hx : x ∈ l) (hy : y ∈ l) (hk : keyLt x y = true) : Bef x y := by
  have hn : x ≠ y := fun e => by rw [e] at hk; exact keyLt_irrefl _ hk
  rcases pair_or h hx hy hn with k | k
  · exact k
  · exact absurd (keyLt_trans _ _ _ hk (bef_key (hr y hy) k)) (keyLt_irrefl _)
theorem jnB_iff (s x : Sk) : jnB s x = true ↔ x.p.toList = s.p.toList ∧ x.a ≤ s.b ∧ s.a ≤ x.b := by
  unfold jnB
  rw [Bool.and_eq_true, Bool.and_eq_true, beq_iff_eq, decide_eq_true_eq, decide_eq_true_eq, and_assoc]
theorem mer_b (s0 : Sk) : ∀ (l : List Sk) (s : Sk), (l.foldl (merS s0) s).b = s.b ∨ ∃ y ∈ l, jnB s0 y = true ∧ (l.foldl (merS s0) s).b = y.b
  | [], s => .inl rfl
  | x :: l, s => by
    rw [List.foldl_cons]
    rcases mer_b s0 l (merS s0 s x) with h | ⟨y, hy, h1, h2⟩
    · rw [h]
      unfold merS
      by_cases hj : jnB s0 x = true
      · rw [if_pos hj]
        show max s.b x.b = s.b ∨ _
        by_cases hm : x.b ≤ s.b
        · exact .inl (Int.max_eq_left hm)
        · exact .inr ⟨x, by simp, hj, Int.max_eq_right (by omega)⟩
      · rw [if_neg hj]; exact .inl rfl
    · exact .inr ⟨y, by simp [hy], h1, h2⟩
theorem mer_le (s0 : Sk) : ∀ (l : List Sk) (s : Sk), ((l.foldl (merS s0) s).a ≤ s.a ∧ s.b ≤ (l.foldl (merS s0) s).b) ∧ ∀ y ∈ l, jnB s0 y = true → (l.foldl (merS s0) s).a ≤ y.a ∧ y.b ≤ (l.foldl (merS s0) s).b
  | [], s => ⟨⟨Int.le_refl _, Int.le_refl _⟩, by simp⟩
  | x :: l, s => by
    rw [List.foldl_cons]
    have h := mer_le s0 l (merS s0 s x)
    have h2 : (merS s0 s x).a ≤ s.a ∧ s.b ≤ (merS s0 s x).b ∧ (jnB s0 x = true → (merS s0 s x).a ≤ x.a ∧ x.b ≤ (merS s0 s x).b) := by
      unfold merS
      by_cases hj : jnB s0 x = true
      · rw [if_pos hj]
        show min s.a x.a ≤ s.a ∧ s.b ≤ max s.b x.b ∧ (_ → min s.a x.a ≤ x.a ∧ x.b ≤ max s.b x.b)
        omega
      · rw [if_neg hj]
        exact ⟨Int.le_refl _, Int.le_refl _, fun k => absurd k hj⟩
    refine ⟨by omega, fun y hy hj => ?_⟩
    rcases List.mem_cons.1 hy with rfl | hy
    · have := h2.2.2 hj; omega
    · exact h.2 y hy hj
theorem join_skE {l : List Sk} (hl : skE l = 0) {s : Sk} (hn : nameB s.p = true) (h0 : 0 ≤ s.a ∧ s.a < s.b ∧ s.b ≤ 1048576) : skE (joinE l s) = 0 := by
  have hg := goodS_of hl
  rw [skE_iff] at hl
  have hr : ∀ x ∈ l, x.a < x.b := fun x hx => (hl.1 x hx).2.2.1
  have hmp : (mer s l).p = s.p := mer_p s l s
  have hma := mer_a s l s
  have hmb := mer_b s l s
  have hml := mer_le s l s
  rw [show l.foldl (merS s) s = mer s l from rfl] at hma hmb hml
  have hmab : (mer s l).a < (mer s l).b := by omega
  have hm : ∀ x, x ∈ joinE l s ↔ x = mer s l ∨ (x ∈ l ∧ jnB s x = false) := fun x => by
    unfold joinE
    rw [(insK_perm _ _).mem_iff, List.mem_cons]
    unfold oth
    rw [List.mem_filter]
    simp
  have hcmp : ∀ x ∈ l, jnB s x = false → x.p.toList = s.p.toList → x.b ≤ (mer s l).a ∨ (mer s l).b ≤ x.a := fun x hx hj hp => by
    have hj' : ¬ (x.a ≤ s.b ∧ s.a ≤ x.b) := fun k => by
      have := (jnB_iff s x).2 ⟨hp, k.1, k.2⟩
      rw [hj] at this; cases this
    have hxr := hr x hx
    have hdis : ∀ y ∈ l, jnB s y = true → x.b ≤ y.a ∨ y.b ≤ x.a := fun y hy hjy => by
      have hne : x ≠ y := fun e => by rw [e, hjy] at hj; cases hj
      have hyp := ((jnB_iff s y).1 hjy).1
      rcases pair_or hl.2 hx hy hne with k | k
      · unfold Bef at k
        rcases k with k | k
        · rw [hp, hyp] at k; exact absurd k (List.lt_irrefl _)
        · exact .inl k.2
      · unfold Bef at k
        rcases k with k | k
        · rw [hp, hyp] at k; exact absurd k (List.lt_irrefl _)
        · exact .inr k.2
    by_cases hc : s.b < x.a
    · right
      rcases hmb with k | ⟨y, hy, hjy, k⟩
      · omega
      · have h1 := hdis y hy hjy
        have h2 := (jnB_iff s y).1 hjy
        have h3 := hr y hy
        omega
    · left
      rcases hma with k | ⟨y, hy, hjy, k⟩
      · omega
      · have h1 := hdis y hy hjy
        have h2 := (jnB_iff s y).1 hjy
        have h3 := hr y hy
        omega
  have hasc : (joinE l s).Pairwise (fun x y => keyLt x y = true) := insK_asc (mer s l) (hg.asc.filter _) (oth_key hg h0.2.1)
  rw [skE_iff]
  refine ⟨fun x hx => ?_, ?_⟩
  · rcases (hm x).1 hx with rfl | h
    · rw [hmp]
      refine ⟨hn, ?_⟩
      have h1 : 0 ≤ (mer s l).a := by
        rcases hma with k | ⟨y, hy, _, k⟩
        · omega
        · have := hl.1 y hy; omega
      have h2 : (mer s l).b ≤ 1048576 := by
        rcases hmb with k | ⟨y, hy, _, k⟩
        · omega
        · have := hl.1 y hy; omega
      omega
    · exact hl.1 x h.1
  · refine hasc.imp_of_mem fun {x y} hx hy hk => ?_
    rcases (hm x).1 hx with hxm | hxl <;> rcases (hm y).1 hy with hym | hyl
    · rw [hxm, hym] at hk; exact absurd hk (keyLt_irrefl _)
    · rw [keyLt_iff, hxm, hmp] at hk
      unfold Bef
      rw [hxm, hmp]
      rcases hk with hk | hk
      · exact .inl hk
      · have := hcmp y hyl.1 hyl.2 hk.1.symm
        have := hr y hyl.1
        exact .inr ⟨hk.1, by omega⟩
    · rw [keyLt_iff, hym, hmp] at hk
      unfold Bef
      rw [hym, hmp]
      rcases hk with hk | hk
      · exact .inl hk
      · have := hcmp x hxl.1 hxl.2 hk.1
        have := hr x hxl.1
        exact .inr ⟨hk.1, by omega⟩
    · exact key_bef hr hl.2 hxl.1 hyl.1 hk
theorem hasQ_iff (p : ByteArray) (t : Int) (s : Sk) : hasQ p t s = true ↔ s.p.toList = p.toList ∧ s.a ≤ t ∧ t < s.b := by
  unfold hasQ
  rw [Bool.and_eq_true, Bool.and_eq_true, beq_iff_eq, decide_eq_true_eq, decide_eq_true_eq, and_assoc]
theorem join_has (l : List Sk) (s : Sk) (p : ByteArray) (t : Int) : (joinE l s).any (hasQ p t) = (hasQ p t s || l.any (hasQ p t)) := by
  have hmp : (mer s l).p = s.p := mer_p s l s
  have hma := mer_a s l s
  have hmb := mer_b s l s
  have hml := mer_le s l s
  rw [show l.foldl (merS s) s = mer s l from rfl] at hma hmb hml
  have hm : ∀ x, x ∈ joinE l s ↔ x = mer s l ∨ (x ∈ l ∧ jnB s x = false) := fun x => by
    unfold joinE
    rw [(insK_perm _ _).mem_iff, List.mem_cons]
    unfold oth
    rw [List.mem_filter]
    simp
  rw [Bool.eq_iff_iff, Bool.or_eq_true, List.any_eq_true, List.any_eq_true]
  constructor
  · rintro ⟨z, hz, hq⟩
    rcases (hm z).1 hz with rfl | h
    · rw [hasQ_iff, hmp] at hq
      by_cases h1 : t < s.a
      · rcases hma with k | ⟨y, hy, hj, k⟩
        · omega
        · have hj := (jnB_iff s y).1 hj
          exact .inr ⟨y, hy, (hasQ_iff p t y).2 ⟨hj.1.trans hq.1, by omega⟩⟩
      · by_cases h2 : t < s.b
        · exact .inl ((hasQ_iff p t s).2 ⟨hq.1, by omega, h2⟩)
        · rcases hmb with k | ⟨y, hy, hj, k⟩
          · omega
          · have hj := (jnB_iff s y).1 hj
            exact .inr ⟨y, hy, (hasQ_iff p t y).2 ⟨hj.1.trans hq.1, by omega⟩⟩
    · exact .inr ⟨z, h.1, hq⟩
  · rintro (h | ⟨x, hx, hq⟩)
    · have h := (hasQ_iff p t s).1 h
      refine ⟨mer s l, (hm _).2 (.inl rfl), (hasQ_iff p t _).2 ?_⟩
      rw [hmp]
      exact ⟨h.1, by omega, by omega⟩
    · by_cases hj : jnB s x = true
      · have h := (hasQ_iff p t x).1 hq
        have h2 := hml.2 x hx hj
        have h3 := (jnB_iff s x).1 hj
        refine ⟨mer s l, (hm _).2 (.inl rfl), (hasQ_iff p t _).2 ?_⟩
        rw [hmp]
        exact ⟨h3.1.symm.trans h.1, by omega, by omega⟩
      · exact ⟨x, (hm x).2 (.inr ⟨hx, by simpa using hj⟩), hq⟩
theorem set_at (l : List Wl) (k : Nat) (w : Wl) (i : Nat) (hk : k < l.length) : (l.set k w).getD i zeroWl = if k = i then w else l.getD i zeroWl := by
  simp only [List.getD_eq_getElem?_getD, List.getElem?_set]
  by_cases h : k = i
  · rw [if_pos h, if_pos h, if_pos (by omega)]; rfl
  · rw [if_neg h, if_neg h]
theorem set_chk {l : List Wl} (h : chkE l = 0) {k : Nat} (hk : k < l.length) {J : List Sk} (hJ : skE J = 0) (h16 : J.length ≤ 16) : chkE (l.set k ⟨(l.getD k zeroWl).nm, J⟩) = 0 := by
  unfold chkE at h ⊢
  rw [List.length_set]
  by_cases h32 : 32 < l.length
  · rw [if_pos h32] at h; cases h
  rw [if_neg h32, firstE_zero] at h ⊢
  have hnm : ∀ i, ((l.set k ⟨(l.getD k zeroWl).nm, J⟩).getD i zeroWl).nm = (l.getD i zeroWl).nm := fun i => by
    rw [set_at l k _ i hk]
    by_cases e : k = i
    · rw [if_pos e, e]
    · rw [if_neg e]
  intro i hi
  have h1 := h i hi
  unfold chkAt prevW at h1 ⊢
  rw [hnm, hnm, set_at l k _ i hk]
  by_cases e : k = i
  · rw [if_pos e]
    dsimp only
    rw [hJ, if_neg (show ¬ 16 < J.length by omega), if_neg (show ¬ (0 : Int) ≠ 0 by simp)]
    by_cases hn : (!nameB (l.getD i zeroWl).nm) = true
    · rw [if_pos hn] at h1; cases h1
    rw [if_neg hn] at h1 ⊢
    by_cases h2 : 16 < (l.getD i zeroWl).sk.length
    · rw [if_pos h2] at h1; cases h1
    rw [if_neg h2] at h1
    by_cases h3 : skE (l.getD i zeroWl).sk ≠ 0
    · rw [if_pos h3] at h1; exact absurd h1 h3
    rw [if_neg h3] at h1
    exact h1
  · rw [if_neg e]
    exact h1
theorem chk_each {l : List Wl} (h : chkE l = 0) : ∀ i, i < l.length → nameB (l.getD i zeroWl).nm = true ∧ (l.getD i zeroWl).sk.length ≤ 16 ∧ skE (l.getD i zeroWl).sk = 0 := fun i hi => by
  unfold chkE at h
  by_cases h32 : 32 < l.length
  · rw [if_pos h32] at h; cases h
  rw [if_neg h32, firstE_zero] at h
  have h1 := h i hi
  unfold chkAt at h1
  by_cases hn : (!nameB (l.getD i zeroWl).nm) = true
  · rw [if_pos hn] at h1; cases h1
  rw [if_neg hn] at h1
  by_cases h2 : 16 < (l.getD i zeroWl).sk.length
  · rw [if_pos h2] at h1; cases h1
  rw [if_neg h2] at h1
  by_cases h3 : skE (l.getD i zeroWl).sk ≠ 0
  · rw [if_pos h3] at h1; exact absurd h1 h3
  exact ⟨by simpa using hn, by omega, by simpa using h3⟩
theorem name_short {p : ByteArray} (h : nameB p = true) : p.size ≤ 16 := by
  unfold nameB at h
  simp only [Bool.and_eq_true, decide_eq_true_eq] at h
  have := h.1.1.2
  omega
theorem chk_few {l : List Wl} (h : chkE l = 0) : fewB l = true := by
  have h32 := (chk_good h).1
  have he := chk_each h
  unfold fewB
  rw [Bool.and_eq_true, decide_eq_true_eq]
  refine ⟨?_, by omega⟩
  rw [Bool.not_eq_true', List.any_eq_false]
  intro q hq
  obtain ⟨i, hi, rfl⟩ := List.getElem_of_mem (List.mem_of_mem_take hq)
  have h1 := he i hi
  rw [getD_get l zeroWl i hi] at h1
  have h2 := name_short h1.1
  unfold bigW
  have h3 : l[i].sk.any longS = false := by
    rw [List.any_eq_false]
    intro s hs
    have := name_short (((skE_iff _).1 h1.2.2).1 s hs).1
    unfold longS
    rw [decide_eq_true_eq]
    omega
  rw [h3]
  simp only [Bool.or_false, Bool.or_eq_true, decide_eq_true_eq]
  omega
theorem ren_ok {l : List Wl} (h : chkE l = 0) {nm p : ByteArray} {a hh : Int} (he : (renE l nm p a hh).2 = 0) :
    chkE (renE l nm p a hh).1 = 0 ∧ (renE l nm p a hh).1.length = l.length ∧ (0 ≤ a ∧ a ≤ 1048576 ∧ 1 ≤ hh ∧ hh ≤ 1048576) ∧
    ∀ (n q : ByteArray) (t : Int), qualB (renE l nm p a hh).1 n q t = (((n.toList == nm.toList) && ((q.toList == p.toList) && (decide (a ≤ t) && decide (t < a + hh)))) || qualB l n q t) := by
  unfold renE at he ⊢
  rcases idxF_some (p := sameN nm) (l := l) zeroWl with ⟨hI, _⟩ | ⟨i, hil, hI, hnm, _⟩
  · rw [hI, if_pos (by decide)] at he; cases he
  rw [hI, if_neg (by omega)] at he ⊢
  cases hN : nameB p
  · rw [hN, if_pos (by decide)] at he; cases he
  rw [hN, if_neg (by simp)] at he
  rw [if_neg (by simp)]
  cases hB : badR a hh
  case true => rw [hB, if_pos rfl] at he; cases he
  rw [hB, if_neg (by simp)] at he
  rw [if_neg (by simp)]
  obtain ⟨ha0, ha1, hh0, hh1, hah, hwr⟩ := badR_no hB
  rw [Int.toNat_natCast] at he ⊢
  unfold renAt at he ⊢
  by_cases hJ : 16 < (renJ l p a hh i).length
  · rw [if_pos hJ] at he; cases he
  rw [if_neg hJ]
  have hE := chk_each h i hil
  have hsk : skE (renJ l p a hh i) = 0 := join_skE hE.2.2 hN ⟨ha0, by show a < a + hh; omega, hah⟩
  have hnm' : (l.getD i zeroWl).nm.toList = nm.toList := by unfold sameN at hnm; rw [beq_iff_eq] at hnm; exact hnm
  refine ⟨set_chk h hil hsk (by omega), by simp, ⟨ha0, ha1, hh0, hh1⟩, fun n q t => ?_⟩
  have hq : validB q t ⟨(l.getD i zeroWl).nm, renJ l p a hh i⟩ = (((q.toList == p.toList) && (decide (a ≤ t) && decide (t < a + hh))) || validB q t (l.getD i zeroWl)) := by
    unfold validB renJ
    dsimp only
    rw [join_has]
    congr 1
    unfold hasQ
    dsimp only
    rw [Bool.and_assoc, Bool.beq_comm]
  show qualB (l.set i ⟨(l.getD i zeroWl).nm, renJ l p a hh i⟩) n q t = _
  have hone := names_one h n
  rw [Bool.eq_iff_iff]
  unfold qualB
  rw [Bool.or_eq_true, List.any_eq_true, List.any_eq_true]
  have hw : ∀ w : Wl, qualW n q t w = true ↔ w.nm.toList = n.toList ∧ validB q t w = true := fun w => by
    unfold qualW; rw [Bool.and_eq_true, beq_iff_eq]
  constructor
  · rintro ⟨w, hw1, hw2⟩
    obtain ⟨j, hj, rfl⟩ := List.getElem_of_mem hw1
    have hj' : j < l.length := by simpa using hj
    rw [← getD_get _ zeroWl j hj, set_at l i _ j hil] at hw2
    by_cases e : i = j
    · rw [if_pos e, hw] at hw2
      dsimp only at hw2
      rw [hq, Bool.or_eq_true] at hw2
      rcases hw2.2 with k | k
      · left
        rw [Bool.and_eq_true, beq_iff_eq]
        exact ⟨hw2.1.symm.trans hnm', k⟩
      · right
        refine ⟨l.getD i zeroWl, by rw [getD_get l zeroWl i hil]; exact List.getElem_mem hil, ?_⟩
        rw [hw]; exact ⟨hw2.1, k⟩
    · rw [if_neg e] at hw2
      exact .inr ⟨l.getD j zeroWl, by rw [getD_get l zeroWl j hj']; exact List.getElem_mem hj', hw2⟩
  · have hmem : ∀ j, j < l.length → (l.set i ⟨(l.getD i zeroWl).nm, renJ l p a hh i⟩).getD j zeroWl ∈ l.set i ⟨(l.getD i zeroWl).nm, renJ l p a hh i⟩ := fun j hj => by
      rw [getD_get _ zeroWl j (by simpa using hj)]; exact List.getElem_mem _
    rintro (k | ⟨w, hw1, hw2⟩)
    · rw [Bool.and_eq_true, beq_iff_eq] at k
      refine ⟨_, hmem i hil, ?_⟩
      rw [set_at l i _ i hil, if_pos rfl, hw]
      dsimp only
      rw [hq, k.2]
      exact ⟨hnm'.trans k.1.symm, rfl⟩
    · obtain ⟨j, hj, rfl⟩ := List.getElem_of_mem hw1
      refine ⟨_, hmem j hj, ?_⟩
      rw [set_at l i _ j hil]
      by_cases e : i = j
      · subst e
        rw [if_pos rfl, hw]
        dsimp only
        rw [hw] at hw2
        rw [hq, getD_get l zeroWl i hil, hw2.2, Bool.or_true]
        exact ⟨hw2.1, rfl⟩
      · rw [if_neg e, getD_get l zeroWl j hj]
        exact hw2
theorem ren_bad {l : List Wl} {nm p : ByteArray} {a hh : Int} (he : (renE l nm p a hh).2 ≠ 0) : (renE l nm p a hh).1 = [] := by
  unfold renE renAt at he ⊢
  split at he
  · rename_i h; rw [if_pos h]
  rename_i h; rw [if_neg h]
  split at he
  · rename_i h; rw [if_pos h]
  rename_i h; rw [if_neg h]
  split at he
  · rename_i h; rw [if_pos h]
  rename_i h; rw [if_neg h]
  split at he
  · rename_i h; rw [if_pos h]
  · exact absurd rfl he
end Go.Proofs
end
section
set_option linter.unusedVariables false
set_option linter.unusedSimpArgs false
namespace Go.Proofs
open Go Go.Ab Go.ChangeShapes Go.WideShapes Go.ChangeAt Go.RowKit
set_option maxRecDepth 100000
set_option linter.unusedSimpArgs false
set_option linter.unusedVariables false
theorem i64_in {n : Int} (h : (Lit.int .i64 n).wf = true) : -9223372036854775808 ≤ n ∧ n ≤ 9223372036854775807 := by
  have h := (Lit.wf_int_iff .i64 n).1 h
  have e1 : IntKind.i64.min = -9223372036854775808 := by decide +kernel
  have e2 : IntKind.i64.max = 9223372036854775807 := by decide +kernel
  omega
section
variable {H : Type} {enc : TypeId × Value → H} {w : World} {spare : Nat → Bool} {held : Bool} {r : Reach} {b0 : Nat} {v : Value} {d : DataW H} {p : List MemPlace}
theorem arg_agg {P : Program} {t : TypeId} {cs : Array Value} (n : Nat) (ht : readsTy P n t = true)
    (hd : DataW.Trod enc P w 0 spare held t (.agg cs) d p) : ∃ qs, Shape P n t qs ∧ PureV (fun g => g < w.heap.size ∧ True) w (.agg qs) (.agg cs) := by
  obtain ⟨fuel, h⟩ := hd
  obtain ⟨_, qs, h1, h2, h3⟩ := read_ty n t ht h
  refine ⟨qs, h1, ?_⟩
  have e : cs = cs.toList.toArray := by simp
  have h2 : qs.length = cs.toList.length := h2
  rw [e]
  refine .agg _ cs.toList h2 (fun u hu => ?_) (fun j hj => ?_)
  · obtain ⟨j, hj, rfl⟩ := List.getElem_of_mem hu
    have := (h3 j (by omega)).2
    rw [Nat.zero_add] at this
    have e2 : cv (Value.agg cs).cells.toList j = cs.toList[j] := by show cv cs.toList j = _; unfold cv; rw [List.getD_eq_getElem?_getD, List.getElem?_eq_getElem hj]; rfl
    rw [e2] at this
    exact this
  · have := (h3 j hj).1
    rw [Nat.zero_add] at this
    exact this.mono fun g hg => ⟨⟨hg, trivial⟩, rfl⟩
theorem arg_x3 (hval : Value.okWide Try.prog w r b0 43 v) (hd : DataW.Trod enc Try.prog w 0 spare held 43 v d p) :
    ∃ x : Int × Int × Int, PureV (fun g => g < w.heap.size ∧ True) w (.agg [.v (.int .i64 x.1), .v (.int .i64 x.2.1), .v (.int .i64 x.2.2)]) v := by
  unfold Value.okWide at hval
  rw [Try.underlying43] at hval
  obtain ⟨cs, rfl, _⟩ := hval
  obtain ⟨qs, h, hp⟩ := arg_agg 3 (by kernel_rfl) hd
  unfold Shape at h
  rw [Try.underlying43] at h
  obtain ⟨rs, rfl, hl, he⟩ := h
  have each : ∀ q ∈ rs, ∃ i : Int, q = [.v (.int .i64 i)] := by
    intro q hq
    have h1 := he q hq
    unfold Shape at h1
    simp only [Try.underlying3] at h1
    obtain ⟨i, h1, _⟩ := h1
    exact ⟨i, h1⟩
  match rs, hl with
  | [q0, q1, q2], _ =>
  obtain ⟨a0, rfl⟩ := each q0 (by simp)
  obtain ⟨a1, rfl⟩ := each q1 (by simp)
  obtain ⟨a2, rfl⟩ := each q2 (by simp)
  exact ⟨(a0, a1, a2), hp⟩
theorem shape_askr {qs : List AV} (h : Shape Try.prog 2 28 qs) : ∃ x : Ak, x.a ≤ 9223372036854775807 ∧ AV.agg qs = x.av := by
  unfold Shape at h
  rw [Try.underlying28] at h
  simp only [List.map_cons, List.map_nil, FieldsShape] at h
  obtain ⟨_, _, rfl, h0, _, _, rfl, h1, _, _, rfl, h2, _, _, rfl, h3, rfl⟩ := h
  unfold Shape at h0 h1 h2 h3
  simp only [Try.underlying3, Try.underlying9] at h0 h1 h2 h3
  obtain ⟨x0, rfl, _⟩ := h0
  obtain ⟨x1, rfl, _⟩ := h1
  obtain ⟨x2, rfl, hw⟩ := h2
  obtain ⟨x3, rfl, _⟩ := h3
  exact ⟨⟨x0, x1, x2, x3⟩, (i64_in hw).2, rfl⟩
theorem arg_askr (hval : Value.okWide Try.prog w r b0 28 v) (hd : DataW.Trod enc Try.prog w 0 spare held 28 v d p) : ∃ x : Ak, x.a ≤ 9223372036854775807 ∧ PureV (fun g => g < w.heap.size ∧ True) w x.av v := by
  obtain ⟨qs, hs, hp⟩ := arg_struct 2 Try.underlying28 (by kernel_rfl) hval hd
  obtain ⟨x, hx, e⟩ := shape_askr hs
  exact ⟨x, hx, e ▸ hp⟩
end
end Go.Proofs
end
section
set_option linter.unusedVariables false
set_option linter.unusedSimpArgs false
namespace Go.Proofs
open Go Go.Ab
set_option maxHeartbeats 8000000
set_option maxRecDepth 100000
set_option linter.unusedSimpArgs false
set_option linter.unusedVariables false
attribute [local irreducible] Awp aops aopsL Go.Ab.Pure PureOwn

theorem keeps_ok (l : List Wl) (x y : Ak) (hyr : y.a ≤ 9223372036854775807) : Pure Try.prog 7 [.sl (wls l), x.av, y.av] (.v (.bool true)) := by
  have c0 := right_ok l
  cases h1 : rightB l
  · rw [h1] at c0
    refine fn_pure Try.F7 (Nat.le_of_ble_eq_true rfl) ?_; unfold Try.ac7
    repeat' (first
    | (apply Awp.sreg; (case hn => (simp only [List.length_cons, List.length_nil, Nat.reduceAdd] <;> rfl)))
    | (refine st_nil ?_)
    | (apply st_a; (case hc => rfl); (case he => (simp only [go_sem, *] <;> rfl)); (case hu => (simp only [updL_nil, updL_cons] <;> rfl)); (case hp => first | trivial))
    | (apply st_m; (case hc => rfl); (case hg => (simp only [go_sem, *] <;> rfl)); (case he => (intro hQz; (try simp only [wantB_t, wantB_f, Bool.and_eq_true, Bool.not_eq_true', Bool.not_true, Bool.not_false, and_true, true_and] at hQz); simp only [go_sem, *] <;> rfl)); (case hp => (intro hQz; (try simp only [wantB_t, wantB_f, Bool.and_eq_true, Bool.not_eq_true', Bool.or_eq_false_iff, decide_eq_true_eq, decide_eq_false_iff_not, beq_iff_eq, beq_eq_false_iff_ne, bne_iff_ne, bne_eq_false_iff_eq, Int.not_lt, Int.not_le, Int.ofNat_lt, Int.ofNat_le] at hQz); first | trivial)))
    | (apply st_c; (case hc => (simp only [go_sem, *] <;> rfl)); (case hl => (simp only [go_sem, *] <;> rfl)); (case hn => (simp only [go_sem, *] <;> rfl)); (case hp => first | exact c0 | (have hXz := c0; simp only [go_sem, *] at hXz; exact hXz)))
    | (apply st_c; (case hc => (simp only [go_sem, *] <;> rfl)); (case hl => (simp only [go_sem, *] <;> rfl)); (case hn => (simp only [go_sem, *] <;> rfl)); (case hp => first | exact awake_ok | (have hXz := awake_ok; simp only [go_sem, *] at hXz; exact hXz)))
    | (refine Awp.ret ?_; try simp only [go_sem, *])
    | (apply Awp.cond; (case hc => (simp only [go_sem, *] <;> rfl)); all_goals (intro hg; (try simp only [Bool.not_true, Bool.not_false, reduceCtorEq] at hg)))
    | refine Awp.seq ?_)
    all_goals repeat' (first | exact Lower.bool (by first | rfl | (simp only [true_and, Bool.true_and, Bool.false_and, Bool.and_true, Bool.and_false, Bool.true_or, Bool.false_or, reduceIte, Bool.false_eq_true, *]; done) | (simp only [true_and, reduceIte, Bool.false_eq_true, *] <;> rfl) | (simp [true_and]; done) | (simp_all [true_and]; done) | omega))
  rw [h1] at c0
  by_cases hp : (100 : Int) < x.p.size
  · refine fn_pure Try.F7 (Nat.le_of_ble_eq_true rfl) ?_; unfold Try.ac7
    repeat' (first
    | (apply Awp.sreg; (case hn => (simp only [List.length_cons, List.length_nil, Nat.reduceAdd] <;> rfl)))
    | (refine st_nil ?_)
    | (apply st_a; (case hc => rfl); (case he => (simp only [go_sem, *] <;> rfl)); (case hu => (simp only [updL_nil, updL_cons] <;> rfl)); (case hp => first | trivial))
    | (apply st_m; (case hc => rfl); (case hg => (simp only [go_sem, *] <;> rfl)); (case he => (intro hQz; (try simp only [wantB_t, wantB_f, Bool.and_eq_true, Bool.not_eq_true', Bool.not_true, Bool.not_false, and_true, true_and] at hQz); simp only [go_sem, *] <;> rfl)); (case hp => (intro hQz; (try simp only [wantB_t, wantB_f, Bool.and_eq_true, Bool.not_eq_true', Bool.or_eq_false_iff, decide_eq_true_eq, decide_eq_false_iff_not, beq_iff_eq, beq_eq_false_iff_ne, bne_iff_ne, bne_eq_false_iff_eq, Int.not_lt, Int.not_le, Int.ofNat_lt, Int.ofNat_le] at hQz); first | trivial)))
    | (apply st_c; (case hc => (simp only [go_sem, *] <;> rfl)); (case hl => (simp only [go_sem, *] <;> rfl)); (case hn => (simp only [go_sem, *] <;> rfl)); (case hp => first | exact c0 | (have hXz := c0; simp only [go_sem, *] at hXz; exact hXz)))
    | (apply st_c; (case hc => (simp only [go_sem, *] <;> rfl)); (case hl => (simp only [go_sem, *] <;> rfl)); (case hn => (simp only [go_sem, *] <;> rfl)); (case hp => first | exact awake_ok | (have hXz := awake_ok; simp only [go_sem, *] at hXz; exact hXz)))
    | (refine Awp.ret ?_; try simp only [go_sem, *])
    | (apply Awp.cond; (case hc => (simp only [go_sem, *] <;> rfl)); all_goals (intro hg; (try simp only [Bool.not_true, Bool.not_false, reduceCtorEq] at hg)))
    | refine Awp.seq ?_)
    all_goals repeat' (first | exact Lower.bool (by first | rfl | (simp only [true_and, Bool.true_and, Bool.false_and, Bool.and_true, Bool.and_false, Bool.true_or, Bool.false_or, reduceIte, Bool.false_eq_true, *]; done) | (simp only [true_and, reduceIte, Bool.false_eq_true, *] <;> rfl) | (simp [true_and]; done) | (simp_all [true_and]; done) | omega))
  obtain ⟨hl, hs, hgs⟩ := right_get h1
  have hs' : ∀ i, i < l.length → (l.getD i zeroWl).sk.length ≤ 40 := fun i hi => by have := hs i hi; omega
  have hc : chkE l = 0 := by
    unfold rightB at h1
    rw [Bool.and_eq_true, beq_iff_eq] at h1
    exact h1.2
  have c1 := renew_ok l x.nm x.p x.a x.h (by omega) hs' hgs
  by_cases hE : (renE l x.nm x.p x.a x.h).2 = 0
  · obtain ⟨g1, g2, ⟨ha0, ha1, hh0, hh1⟩, g4⟩ := ren_ok hc hE
    have g4 := g4 y.nm y.p y.a
    obtain ⟨hL, hS⟩ := renE_len (nm := x.nm) (p := x.p) (a := x.a) (h := x.h) (show l.length ≤ 40 by omega) hs'
    have c2 := check_ok (renE l x.nm x.p x.a x.h).1 (by omega) (fun i hi => by have := hS i hi; omega)
    have c4 := rcheck_ok (renE l x.nm x.p x.a x.h).1 (by omega) (fun i hi => by have := hS i hi; omega)
    have c3 := few_ok (renE l x.nm x.p x.a x.h).1
    have c5 := qualified_ok (renE l x.nm x.p x.a x.h).1 y.nm y.p y.a (by omega) (fun i hi => by have := hS i hi; omega)
    have c6 := qualified_ok l y.nm y.p y.a (by omega) (fun i hi => by have := hs i hi; omega)
    rw [chk_few g1] at c3
    rw [g1] at c2 c4
    rw [g4] at c5
    rw [hE] at c1
    clear h1 hs hs' hgs hl hL hS hc g1 g4 hE
    generalize (renE l x.nm x.p x.a x.h).1 = L at *
    generalize qualB l y.nm y.p y.a = Q at *
    have eQ : (Q == Q) = true := by simp
    have eL : ((L.length : Int) != l.length) = false := by rw [g2]; simp
    clear g2
    cases b1 : (y.nm.toList == x.nm.toList)
    · rw [b1, Bool.false_and, Bool.false_or] at c5
      refine fn_pure Try.F7 (Nat.le_of_ble_eq_true rfl) ?_; unfold Try.ac7
      repeat' (first
    | (apply Awp.sreg; (case hn => (simp only [List.length_cons, List.length_nil, Nat.reduceAdd] <;> rfl)))
    | (refine st_nil ?_)
    | (apply st_a; (case hc => rfl); (case he => (simp only [go_sem, *] <;> rfl)); (case hu => (simp only [updL_nil, updL_cons] <;> rfl)); (case hp => first | trivial))
    | (apply st_m; (case hc => rfl); (case hg => (simp only [go_sem, *] <;> rfl)); (case he => (intro hQz; (try simp only [wantB_t, wantB_f, Bool.and_eq_true, Bool.not_eq_true', Bool.not_true, Bool.not_false, and_true, true_and] at hQz); simp only [go_sem, *] <;> rfl)); (case hp => (intro hQz; (try simp only [wantB_t, wantB_f, Bool.and_eq_true, Bool.not_eq_true', Bool.or_eq_false_iff, decide_eq_true_eq, decide_eq_false_iff_not, beq_iff_eq, beq_eq_false_iff_ne, bne_iff_ne, bne_eq_false_iff_eq, Int.not_lt, Int.not_le, Int.ofNat_lt, Int.ofNat_le] at hQz); first | trivial)))
    | (apply st_c; (case hc => (simp only [go_sem, *] <;> rfl)); (case hl => (simp only [go_sem, *] <;> rfl)); (case hn => (simp only [go_sem, *] <;> rfl)); (case hp => first | exact c0 | (have hXz := c0; simp only [go_sem, *] at hXz; exact hXz)))
    | (apply st_c; (case hc => (simp only [go_sem, *] <;> rfl)); (case hl => (simp only [go_sem, *] <;> rfl)); (case hn => (simp only [go_sem, *] <;> rfl)); (case hp => first | exact c1 | (have hXz := c1; simp only [go_sem, *] at hXz; exact hXz)))
    | (apply st_c; (case hc => (simp only [go_sem, *] <;> rfl)); (case hl => (simp only [go_sem, *] <;> rfl)); (case hn => (simp only [go_sem, *] <;> rfl)); (case hp => first | exact c2 | (have hXz := c2; simp only [go_sem, *] at hXz; exact hXz)))
    | (apply st_mc; (case hop => rfl); (case hg => (simp only [go_sem, *] <;> rfl)); (case hc => (intro hQz; (try simp only [wantB_t, wantB_f, Bool.and_eq_true, Bool.not_eq_true', Bool.not_true, Bool.not_false, and_true, true_and] at hQz); simp only [go_sem, *] <;> rfl)); (case hl => (intro hQz; (try simp only [wantB_t, wantB_f, Bool.and_eq_true, Bool.not_eq_true', Bool.not_true, Bool.not_false, and_true, true_and] at hQz); simp only [go_sem, *] <;> rfl)); (case hn => (intro hQz; (try simp only [wantB_t, wantB_f, Bool.and_eq_true, Bool.not_eq_true', Bool.not_true, Bool.not_false, and_true, true_and] at hQz); simp only [go_sem, *] <;> rfl)); (case hp => intro hQz; first | exact c3 | (have hXz := c3; simp only [go_sem, *] at hXz; exact hXz)))
    | (apply st_mc; (case hop => rfl); (case hg => (simp only [go_sem, *] <;> rfl)); (case hc => (intro hQz; (try simp only [wantB_t, wantB_f, Bool.and_eq_true, Bool.not_eq_true', Bool.not_true, Bool.not_false, and_true, true_and] at hQz); simp only [go_sem, *] <;> rfl)); (case hl => (intro hQz; (try simp only [wantB_t, wantB_f, Bool.and_eq_true, Bool.not_eq_true', Bool.not_true, Bool.not_false, and_true, true_and] at hQz); simp only [go_sem, *] <;> rfl)); (case hn => (intro hQz; (try simp only [wantB_t, wantB_f, Bool.and_eq_true, Bool.not_eq_true', Bool.not_true, Bool.not_false, and_true, true_and] at hQz); simp only [go_sem, *] <;> rfl)); (case hp => intro hQz; first | exact c4 | (have hXz := c4; simp only [go_sem, *] at hXz; exact hXz)))
    | (apply st_c; (case hc => (simp only [go_sem, *] <;> rfl)); (case hl => (simp only [go_sem, *] <;> rfl)); (case hn => (simp only [go_sem, *] <;> rfl)); (case hp => first | exact c5 | (have hXz := c5; simp only [go_sem, *] at hXz; exact hXz)))
    | (apply st_mc; (case hop => rfl); (case hg => (simp only [go_sem, *] <;> rfl)); (case hc => (intro hQz; (try simp only [wantB_t, wantB_f, Bool.and_eq_true, Bool.not_eq_true', Bool.not_true, Bool.not_false, and_true, true_and] at hQz); simp only [go_sem, *] <;> rfl)); (case hl => (intro hQz; (try simp only [wantB_t, wantB_f, Bool.and_eq_true, Bool.not_eq_true', Bool.not_true, Bool.not_false, and_true, true_and] at hQz); simp only [go_sem, *] <;> rfl)); (case hn => (intro hQz; (try simp only [wantB_t, wantB_f, Bool.and_eq_true, Bool.not_eq_true', Bool.not_true, Bool.not_false, and_true, true_and] at hQz); simp only [go_sem, *] <;> rfl)); (case hp => intro hQz; first | exact c6 | (have hXz := c6; simp only [go_sem, *] at hXz; exact hXz)))
    | (apply st_mc; (case hop => rfl); (case hg => (simp only [go_sem, *] <;> rfl)); (case hc => (intro hQz; (try simp only [wantB_t, wantB_f, Bool.and_eq_true, Bool.not_eq_true', Bool.not_true, Bool.not_false, and_true, true_and] at hQz); simp only [go_sem, *] <;> rfl)); (case hl => (intro hQz; (try simp only [wantB_t, wantB_f, Bool.and_eq_true, Bool.not_eq_true', Bool.not_true, Bool.not_false, and_true, true_and] at hQz); simp only [go_sem, *] <;> rfl)); (case hn => (intro hQz; (try simp only [wantB_t, wantB_f, Bool.and_eq_true, Bool.not_eq_true', Bool.not_true, Bool.not_false, and_true, true_and] at hQz); simp only [go_sem, *] <;> rfl)); (case hp => intro hQz; first | exact awake_ok | (have hXz := awake_ok; simp only [go_sem, *] at hXz; exact hXz)))
    | (refine Awp.ret ?_; try simp only [go_sem, *])
    | (refine Awp.skip ?_; try simp only [go_sem, *])
    | (apply Awp.cond; (case hc => (simp only [go_sem, *] <;> rfl)); all_goals (intro hg; (try simp only [Bool.not_true, Bool.not_false, reduceCtorEq] at hg)))
    | refine Awp.seq ?_)
      all_goals repeat' (first | exact Lower.bool (by first | rfl | (simp only [true_and, Bool.true_and, Bool.false_and, Bool.and_true, Bool.and_false, Bool.true_or, Bool.false_or, reduceIte, Bool.false_eq_true, *]; done) | (simp only [true_and, reduceIte, Bool.false_eq_true, *] <;> rfl) | (simp [true_and]; done) | (simp_all [true_and]; done) | omega))
    rw [b1, Bool.true_and] at c5
    cases b2 : (y.p.toList == x.p.toList)
    · rw [b2, Bool.false_and, Bool.false_or] at c5
      refine fn_pure Try.F7 (Nat.le_of_ble_eq_true rfl) ?_; unfold Try.ac7
      repeat' (first
    | (apply Awp.sreg; (case hn => (simp only [List.length_cons, List.length_nil, Nat.reduceAdd] <;> rfl)))
    | (refine st_nil ?_)
    | (apply st_a; (case hc => rfl); (case he => (simp only [go_sem, *] <;> rfl)); (case hu => (simp only [updL_nil, updL_cons] <;> rfl)); (case hp => first | trivial))
    | (apply st_m; (case hc => rfl); (case hg => (simp only [go_sem, *] <;> rfl)); (case he => (intro hQz; (try simp only [wantB_t, wantB_f, Bool.and_eq_true, Bool.not_eq_true', Bool.not_true, Bool.not_false, and_true, true_and] at hQz); simp only [go_sem, *] <;> rfl)); (case hp => (intro hQz; (try simp only [wantB_t, wantB_f, Bool.and_eq_true, Bool.not_eq_true', Bool.or_eq_false_iff, decide_eq_true_eq, decide_eq_false_iff_not, beq_iff_eq, beq_eq_false_iff_ne, bne_iff_ne, bne_eq_false_iff_eq, Int.not_lt, Int.not_le, Int.ofNat_lt, Int.ofNat_le] at hQz); first | trivial)))
    | (apply st_c; (case hc => (simp only [go_sem, *] <;> rfl)); (case hl => (simp only [go_sem, *] <;> rfl)); (case hn => (simp only [go_sem, *] <;> rfl)); (case hp => first | exact c0 | (have hXz := c0; simp only [go_sem, *] at hXz; exact hXz)))
    | (apply st_c; (case hc => (simp only [go_sem, *] <;> rfl)); (case hl => (simp only [go_sem, *] <;> rfl)); (case hn => (simp only [go_sem, *] <;> rfl)); (case hp => first | exact c1 | (have hXz := c1; simp only [go_sem, *] at hXz; exact hXz)))
    | (apply st_c; (case hc => (simp only [go_sem, *] <;> rfl)); (case hl => (simp only [go_sem, *] <;> rfl)); (case hn => (simp only [go_sem, *] <;> rfl)); (case hp => first | exact c2 | (have hXz := c2; simp only [go_sem, *] at hXz; exact hXz)))
    | (apply st_mc; (case hop => rfl); (case hg => (simp only [go_sem, *] <;> rfl)); (case hc => (intro hQz; (try simp only [wantB_t, wantB_f, Bool.and_eq_true, Bool.not_eq_true', Bool.not_true, Bool.not_false, and_true, true_and] at hQz); simp only [go_sem, *] <;> rfl)); (case hl => (intro hQz; (try simp only [wantB_t, wantB_f, Bool.and_eq_true, Bool.not_eq_true', Bool.not_true, Bool.not_false, and_true, true_and] at hQz); simp only [go_sem, *] <;> rfl)); (case hn => (intro hQz; (try simp only [wantB_t, wantB_f, Bool.and_eq_true, Bool.not_eq_true', Bool.not_true, Bool.not_false, and_true, true_and] at hQz); simp only [go_sem, *] <;> rfl)); (case hp => intro hQz; first | exact c3 | (have hXz := c3; simp only [go_sem, *] at hXz; exact hXz)))
    | (apply st_mc; (case hop => rfl); (case hg => (simp only [go_sem, *] <;> rfl)); (case hc => (intro hQz; (try simp only [wantB_t, wantB_f, Bool.and_eq_true, Bool.not_eq_true', Bool.not_true, Bool.not_false, and_true, true_and] at hQz); simp only [go_sem, *] <;> rfl)); (case hl => (intro hQz; (try simp only [wantB_t, wantB_f, Bool.and_eq_true, Bool.not_eq_true', Bool.not_true, Bool.not_false, and_true, true_and] at hQz); simp only [go_sem, *] <;> rfl)); (case hn => (intro hQz; (try simp only [wantB_t, wantB_f, Bool.and_eq_true, Bool.not_eq_true', Bool.not_true, Bool.not_false, and_true, true_and] at hQz); simp only [go_sem, *] <;> rfl)); (case hp => intro hQz; first | exact c4 | (have hXz := c4; simp only [go_sem, *] at hXz; exact hXz)))
    | (apply st_c; (case hc => (simp only [go_sem, *] <;> rfl)); (case hl => (simp only [go_sem, *] <;> rfl)); (case hn => (simp only [go_sem, *] <;> rfl)); (case hp => first | exact c5 | (have hXz := c5; simp only [go_sem, *] at hXz; exact hXz)))
    | (apply st_mc; (case hop => rfl); (case hg => (simp only [go_sem, *] <;> rfl)); (case hc => (intro hQz; (try simp only [wantB_t, wantB_f, Bool.and_eq_true, Bool.not_eq_true', Bool.not_true, Bool.not_false, and_true, true_and] at hQz); simp only [go_sem, *] <;> rfl)); (case hl => (intro hQz; (try simp only [wantB_t, wantB_f, Bool.and_eq_true, Bool.not_eq_true', Bool.not_true, Bool.not_false, and_true, true_and] at hQz); simp only [go_sem, *] <;> rfl)); (case hn => (intro hQz; (try simp only [wantB_t, wantB_f, Bool.and_eq_true, Bool.not_eq_true', Bool.not_true, Bool.not_false, and_true, true_and] at hQz); simp only [go_sem, *] <;> rfl)); (case hp => intro hQz; first | exact c6 | (have hXz := c6; simp only [go_sem, *] at hXz; exact hXz)))
    | (apply st_mc; (case hop => rfl); (case hg => (simp only [go_sem, *] <;> rfl)); (case hc => (intro hQz; (try simp only [wantB_t, wantB_f, Bool.and_eq_true, Bool.not_eq_true', Bool.not_true, Bool.not_false, and_true, true_and] at hQz); simp only [go_sem, *] <;> rfl)); (case hl => (intro hQz; (try simp only [wantB_t, wantB_f, Bool.and_eq_true, Bool.not_eq_true', Bool.not_true, Bool.not_false, and_true, true_and] at hQz); simp only [go_sem, *] <;> rfl)); (case hn => (intro hQz; (try simp only [wantB_t, wantB_f, Bool.and_eq_true, Bool.not_eq_true', Bool.not_true, Bool.not_false, and_true, true_and] at hQz); simp only [go_sem, *] <;> rfl)); (case hp => intro hQz; first | exact awake_ok | (have hXz := awake_ok; simp only [go_sem, *] at hXz; exact hXz)))
    | (refine Awp.ret ?_; try simp only [go_sem, *])
    | (refine Awp.skip ?_; try simp only [go_sem, *])
    | (apply Awp.cond; (case hc => (simp only [go_sem, *] <;> rfl)); all_goals (intro hg; (try simp only [Bool.not_true, Bool.not_false, reduceCtorEq] at hg)))
    | refine Awp.seq ?_)
      all_goals repeat' (first | exact Lower.bool (by first | rfl | (simp only [true_and, Bool.true_and, Bool.false_and, Bool.and_true, Bool.and_false, Bool.true_or, Bool.false_or, reduceIte, Bool.false_eq_true, *]; done) | (simp only [true_and, reduceIte, Bool.false_eq_true, *] <;> rfl) | (simp [true_and]; done) | (simp_all [true_and]; done) | omega))
    rw [b2, Bool.true_and] at c5
    by_cases b3 : x.a ≤ y.a
    case neg =>
      rw [decide_eq_false b3, Bool.false_and, Bool.false_or] at c5
      refine fn_pure Try.F7 (Nat.le_of_ble_eq_true rfl) ?_; unfold Try.ac7
      repeat' (first
    | (apply Awp.sreg; (case hn => (simp only [List.length_cons, List.length_nil, Nat.reduceAdd] <;> rfl)))
    | (refine st_nil ?_)
    | (apply st_a; (case hc => rfl); (case he => (simp only [go_sem, *] <;> rfl)); (case hu => (simp only [updL_nil, updL_cons] <;> rfl)); (case hp => first | trivial))
    | (apply st_m; (case hc => rfl); (case hg => (simp only [go_sem, *] <;> rfl)); (case he => (intro hQz; (try simp only [wantB_t, wantB_f, Bool.and_eq_true, Bool.not_eq_true', Bool.not_true, Bool.not_false, and_true, true_and] at hQz); simp only [go_sem, *] <;> rfl)); (case hp => (intro hQz; (try simp only [wantB_t, wantB_f, Bool.and_eq_true, Bool.not_eq_true', Bool.or_eq_false_iff, decide_eq_true_eq, decide_eq_false_iff_not, beq_iff_eq, beq_eq_false_iff_ne, bne_iff_ne, bne_eq_false_iff_eq, Int.not_lt, Int.not_le, Int.ofNat_lt, Int.ofNat_le] at hQz); first | trivial)))
    | (apply st_c; (case hc => (simp only [go_sem, *] <;> rfl)); (case hl => (simp only [go_sem, *] <;> rfl)); (case hn => (simp only [go_sem, *] <;> rfl)); (case hp => first | exact c0 | (have hXz := c0; simp only [go_sem, *] at hXz; exact hXz)))
    | (apply st_c; (case hc => (simp only [go_sem, *] <;> rfl)); (case hl => (simp only [go_sem, *] <;> rfl)); (case hn => (simp only [go_sem, *] <;> rfl)); (case hp => first | exact c1 | (have hXz := c1; simp only [go_sem, *] at hXz; exact hXz)))
    | (apply st_c; (case hc => (simp only [go_sem, *] <;> rfl)); (case hl => (simp only [go_sem, *] <;> rfl)); (case hn => (simp only [go_sem, *] <;> rfl)); (case hp => first | exact c2 | (have hXz := c2; simp only [go_sem, *] at hXz; exact hXz)))
    | (apply st_mc; (case hop => rfl); (case hg => (simp only [go_sem, *] <;> rfl)); (case hc => (intro hQz; (try simp only [wantB_t, wantB_f, Bool.and_eq_true, Bool.not_eq_true', Bool.not_true, Bool.not_false, and_true, true_and] at hQz); simp only [go_sem, *] <;> rfl)); (case hl => (intro hQz; (try simp only [wantB_t, wantB_f, Bool.and_eq_true, Bool.not_eq_true', Bool.not_true, Bool.not_false, and_true, true_and] at hQz); simp only [go_sem, *] <;> rfl)); (case hn => (intro hQz; (try simp only [wantB_t, wantB_f, Bool.and_eq_true, Bool.not_eq_true', Bool.not_true, Bool.not_false, and_true, true_and] at hQz); simp only [go_sem, *] <;> rfl)); (case hp => intro hQz; first | exact c3 | (have hXz := c3; simp only [go_sem, *] at hXz; exact hXz)))
    | (apply st_mc; (case hop => rfl); (case hg => (simp only [go_sem, *] <;> rfl)); (case hc => (intro hQz; (try simp only [wantB_t, wantB_f, Bool.and_eq_true, Bool.not_eq_true', Bool.not_true, Bool.not_false, and_true, true_and] at hQz); simp only [go_sem, *] <;> rfl)); (case hl => (intro hQz; (try simp only [wantB_t, wantB_f, Bool.and_eq_true, Bool.not_eq_true', Bool.not_true, Bool.not_false, and_true, true_and] at hQz); simp only [go_sem, *] <;> rfl)); (case hn => (intro hQz; (try simp only [wantB_t, wantB_f, Bool.and_eq_true, Bool.not_eq_true', Bool.not_true, Bool.not_false, and_true, true_and] at hQz); simp only [go_sem, *] <;> rfl)); (case hp => intro hQz; first | exact c4 | (have hXz := c4; simp only [go_sem, *] at hXz; exact hXz)))
    | (apply st_c; (case hc => (simp only [go_sem, *] <;> rfl)); (case hl => (simp only [go_sem, *] <;> rfl)); (case hn => (simp only [go_sem, *] <;> rfl)); (case hp => first | exact c5 | (have hXz := c5; simp only [go_sem, *] at hXz; exact hXz)))
    | (apply st_mc; (case hop => rfl); (case hg => (simp only [go_sem, *] <;> rfl)); (case hc => (intro hQz; (try simp only [wantB_t, wantB_f, Bool.and_eq_true, Bool.not_eq_true', Bool.not_true, Bool.not_false, and_true, true_and] at hQz); simp only [go_sem, *] <;> rfl)); (case hl => (intro hQz; (try simp only [wantB_t, wantB_f, Bool.and_eq_true, Bool.not_eq_true', Bool.not_true, Bool.not_false, and_true, true_and] at hQz); simp only [go_sem, *] <;> rfl)); (case hn => (intro hQz; (try simp only [wantB_t, wantB_f, Bool.and_eq_true, Bool.not_eq_true', Bool.not_true, Bool.not_false, and_true, true_and] at hQz); simp only [go_sem, *] <;> rfl)); (case hp => intro hQz; first | exact c6 | (have hXz := c6; simp only [go_sem, *] at hXz; exact hXz)))
    | (apply st_mc; (case hop => rfl); (case hg => (simp only [go_sem, *] <;> rfl)); (case hc => (intro hQz; (try simp only [wantB_t, wantB_f, Bool.and_eq_true, Bool.not_eq_true', Bool.not_true, Bool.not_false, and_true, true_and] at hQz); simp only [go_sem, *] <;> rfl)); (case hl => (intro hQz; (try simp only [wantB_t, wantB_f, Bool.and_eq_true, Bool.not_eq_true', Bool.not_true, Bool.not_false, and_true, true_and] at hQz); simp only [go_sem, *] <;> rfl)); (case hn => (intro hQz; (try simp only [wantB_t, wantB_f, Bool.and_eq_true, Bool.not_eq_true', Bool.not_true, Bool.not_false, and_true, true_and] at hQz); simp only [go_sem, *] <;> rfl)); (case hp => intro hQz; first | exact awake_ok | (have hXz := awake_ok; simp only [go_sem, *] at hXz; exact hXz)))
    | (refine Awp.ret ?_; try simp only [go_sem, *])
    | (refine Awp.skip ?_; try simp only [go_sem, *])
    | (apply Awp.cond; (case hc => (simp only [go_sem, *] <;> rfl)); all_goals (intro hg; (try simp only [Bool.not_true, Bool.not_false, reduceCtorEq] at hg)))
    | refine Awp.seq ?_)
      all_goals repeat' (first | exact Lower.bool (by first | rfl | (simp only [true_and, Bool.true_and, Bool.false_and, Bool.and_true, Bool.and_false, Bool.true_or, Bool.false_or, reduceIte, Bool.false_eq_true, *]; done) | (simp only [true_and, reduceIte, Bool.false_eq_true, *] <;> rfl) | (simp [true_and]; done) | (simp_all [true_and]; done) | omega))
    rw [decide_eq_true b3, Bool.true_and] at c5
    have hw : IntKind.i64.wrap (y.a - x.a) = y.a - x.a := wrap_i64 (by omega) (by omega)
    by_cases b4 : y.a - x.a < x.h
    · rw [decide_eq_true (show y.a < x.a + x.h by omega), Bool.true_or] at c5
      refine fn_pure Try.F7 (Nat.le_of_ble_eq_true rfl) ?_; unfold Try.ac7
      repeat' (first
    | (apply Awp.sreg; (case hn => (simp only [List.length_cons, List.length_nil, Nat.reduceAdd] <;> rfl)))
    | (refine st_nil ?_)
    | (apply st_a; (case hc => rfl); (case he => (simp only [go_sem, *] <;> rfl)); (case hu => (simp only [updL_nil, updL_cons] <;> rfl)); (case hp => first | trivial))
    | (apply st_m; (case hc => rfl); (case hg => (simp only [go_sem, *] <;> rfl)); (case he => (intro hQz; (try simp only [wantB_t, wantB_f, Bool.and_eq_true, Bool.not_eq_true', Bool.not_true, Bool.not_false, and_true, true_and] at hQz); simp only [go_sem, *] <;> rfl)); (case hp => (intro hQz; (try simp only [wantB_t, wantB_f, Bool.and_eq_true, Bool.not_eq_true', Bool.or_eq_false_iff, decide_eq_true_eq, decide_eq_false_iff_not, beq_iff_eq, beq_eq_false_iff_ne, bne_iff_ne, bne_eq_false_iff_eq, Int.not_lt, Int.not_le, Int.ofNat_lt, Int.ofNat_le] at hQz); first | trivial)))
    | (apply st_c; (case hc => (simp only [go_sem, *] <;> rfl)); (case hl => (simp only [go_sem, *] <;> rfl)); (case hn => (simp only [go_sem, *] <;> rfl)); (case hp => first | exact c0 | (have hXz := c0; simp only [go_sem, *] at hXz; exact hXz)))
    | (apply st_c; (case hc => (simp only [go_sem, *] <;> rfl)); (case hl => (simp only [go_sem, *] <;> rfl)); (case hn => (simp only [go_sem, *] <;> rfl)); (case hp => first | exact c1 | (have hXz := c1; simp only [go_sem, *] at hXz; exact hXz)))
    | (apply st_c; (case hc => (simp only [go_sem, *] <;> rfl)); (case hl => (simp only [go_sem, *] <;> rfl)); (case hn => (simp only [go_sem, *] <;> rfl)); (case hp => first | exact c2 | (have hXz := c2; simp only [go_sem, *] at hXz; exact hXz)))
    | (apply st_mc; (case hop => rfl); (case hg => (simp only [go_sem, *] <;> rfl)); (case hc => (intro hQz; (try simp only [wantB_t, wantB_f, Bool.and_eq_true, Bool.not_eq_true', Bool.not_true, Bool.not_false, and_true, true_and] at hQz); simp only [go_sem, *] <;> rfl)); (case hl => (intro hQz; (try simp only [wantB_t, wantB_f, Bool.and_eq_true, Bool.not_eq_true', Bool.not_true, Bool.not_false, and_true, true_and] at hQz); simp only [go_sem, *] <;> rfl)); (case hn => (intro hQz; (try simp only [wantB_t, wantB_f, Bool.and_eq_true, Bool.not_eq_true', Bool.not_true, Bool.not_false, and_true, true_and] at hQz); simp only [go_sem, *] <;> rfl)); (case hp => intro hQz; first | exact c3 | (have hXz := c3; simp only [go_sem, *] at hXz; exact hXz)))
    | (apply st_mc; (case hop => rfl); (case hg => (simp only [go_sem, *] <;> rfl)); (case hc => (intro hQz; (try simp only [wantB_t, wantB_f, Bool.and_eq_true, Bool.not_eq_true', Bool.not_true, Bool.not_false, and_true, true_and] at hQz); simp only [go_sem, *] <;> rfl)); (case hl => (intro hQz; (try simp only [wantB_t, wantB_f, Bool.and_eq_true, Bool.not_eq_true', Bool.not_true, Bool.not_false, and_true, true_and] at hQz); simp only [go_sem, *] <;> rfl)); (case hn => (intro hQz; (try simp only [wantB_t, wantB_f, Bool.and_eq_true, Bool.not_eq_true', Bool.not_true, Bool.not_false, and_true, true_and] at hQz); simp only [go_sem, *] <;> rfl)); (case hp => intro hQz; first | exact c4 | (have hXz := c4; simp only [go_sem, *] at hXz; exact hXz)))
    | (apply st_c; (case hc => (simp only [go_sem, *] <;> rfl)); (case hl => (simp only [go_sem, *] <;> rfl)); (case hn => (simp only [go_sem, *] <;> rfl)); (case hp => first | exact c5 | (have hXz := c5; simp only [go_sem, *] at hXz; exact hXz)))
    | (apply st_mc; (case hop => rfl); (case hg => (simp only [go_sem, *] <;> rfl)); (case hc => (intro hQz; (try simp only [wantB_t, wantB_f, Bool.and_eq_true, Bool.not_eq_true', Bool.not_true, Bool.not_false, and_true, true_and] at hQz); simp only [go_sem, *] <;> rfl)); (case hl => (intro hQz; (try simp only [wantB_t, wantB_f, Bool.and_eq_true, Bool.not_eq_true', Bool.not_true, Bool.not_false, and_true, true_and] at hQz); simp only [go_sem, *] <;> rfl)); (case hn => (intro hQz; (try simp only [wantB_t, wantB_f, Bool.and_eq_true, Bool.not_eq_true', Bool.not_true, Bool.not_false, and_true, true_and] at hQz); simp only [go_sem, *] <;> rfl)); (case hp => intro hQz; first | exact awake_ok | (have hXz := awake_ok; simp only [go_sem, *] at hXz; exact hXz)))
    | (apply st_g; (case hv => (simp only [go_sem, *] <;> rfl)); all_goals (intro hg; (try simp only [Bool.not_true, Bool.not_false, reduceCtorEq] at hg)))
    | (refine Awp.ret ?_; try simp only [go_sem, *])
    | (refine Awp.skip ?_; try simp only [go_sem, *])
    | (apply Awp.cond; (case hc => (simp only [go_sem, *] <;> rfl)); all_goals (intro hg; (try simp only [Bool.not_true, Bool.not_false, reduceCtorEq] at hg)))
    | refine Awp.seq ?_)
      all_goals repeat' (first | exact Lower.bool (by first | rfl | (simp only [true_and, Bool.true_and, Bool.false_and, Bool.and_true, Bool.and_false, Bool.true_or, Bool.false_or, reduceIte, Bool.false_eq_true, *]; done) | (simp only [true_and, reduceIte, Bool.false_eq_true, *] <;> rfl) | (simp [true_and]; done) | (simp_all [true_and]; done) | omega))
    · rw [decide_eq_false (show ¬ y.a < x.a + x.h by omega), Bool.false_or] at c5
      refine fn_pure Try.F7 (Nat.le_of_ble_eq_true rfl) ?_; unfold Try.ac7
      repeat' (first
    | (apply Awp.sreg; (case hn => (simp only [List.length_cons, List.length_nil, Nat.reduceAdd] <;> rfl)))
    | (refine st_nil ?_)
    | (apply st_a; (case hc => rfl); (case he => (simp only [go_sem, *] <;> rfl)); (case hu => (simp only [updL_nil, updL_cons] <;> rfl)); (case hp => first | trivial))
    | (apply st_m; (case hc => rfl); (case hg => (simp only [go_sem, *] <;> rfl)); (case he => (intro hQz; (try simp only [wantB_t, wantB_f, Bool.and_eq_true, Bool.not_eq_true', Bool.not_true, Bool.not_false, and_true, true_and] at hQz); simp only [go_sem, *] <;> rfl)); (case hp => (intro hQz; (try simp only [wantB_t, wantB_f, Bool.and_eq_true, Bool.not_eq_true', Bool.or_eq_false_iff, decide_eq_true_eq, decide_eq_false_iff_not, beq_iff_eq, beq_eq_false_iff_ne, bne_iff_ne, bne_eq_false_iff_eq, Int.not_lt, Int.not_le, Int.ofNat_lt, Int.ofNat_le] at hQz); first | trivial)))
    | (apply st_c; (case hc => (simp only [go_sem, *] <;> rfl)); (case hl => (simp only [go_sem, *] <;> rfl)); (case hn => (simp only [go_sem, *] <;> rfl)); (case hp => first | exact c0 | (have hXz := c0; simp only [go_sem, *] at hXz; exact hXz)))
    | (apply st_c; (case hc => (simp only [go_sem, *] <;> rfl)); (case hl => (simp only [go_sem, *] <;> rfl)); (case hn => (simp only [go_sem, *] <;> rfl)); (case hp => first | exact c1 | (have hXz := c1; simp only [go_sem, *] at hXz; exact hXz)))
    | (apply st_c; (case hc => (simp only [go_sem, *] <;> rfl)); (case hl => (simp only [go_sem, *] <;> rfl)); (case hn => (simp only [go_sem, *] <;> rfl)); (case hp => first | exact c2 | (have hXz := c2; simp only [go_sem, *] at hXz; exact hXz)))
    | (apply st_mc; (case hop => rfl); (case hg => (simp only [go_sem, *] <;> rfl)); (case hc => (intro hQz; (try simp only [wantB_t, wantB_f, Bool.and_eq_true, Bool.not_eq_true', Bool.not_true, Bool.not_false, and_true, true_and] at hQz); simp only [go_sem, *] <;> rfl)); (case hl => (intro hQz; (try simp only [wantB_t, wantB_f, Bool.and_eq_true, Bool.not_eq_true', Bool.not_true, Bool.not_false, and_true, true_and] at hQz); simp only [go_sem, *] <;> rfl)); (case hn => (intro hQz; (try simp only [wantB_t, wantB_f, Bool.and_eq_true, Bool.not_eq_true', Bool.not_true, Bool.not_false, and_true, true_and] at hQz); simp only [go_sem, *] <;> rfl)); (case hp => intro hQz; first | exact c3 | (have hXz := c3; simp only [go_sem, *] at hXz; exact hXz)))
    | (apply st_mc; (case hop => rfl); (case hg => (simp only [go_sem, *] <;> rfl)); (case hc => (intro hQz; (try simp only [wantB_t, wantB_f, Bool.and_eq_true, Bool.not_eq_true', Bool.not_true, Bool.not_false, and_true, true_and] at hQz); simp only [go_sem, *] <;> rfl)); (case hl => (intro hQz; (try simp only [wantB_t, wantB_f, Bool.and_eq_true, Bool.not_eq_true', Bool.not_true, Bool.not_false, and_true, true_and] at hQz); simp only [go_sem, *] <;> rfl)); (case hn => (intro hQz; (try simp only [wantB_t, wantB_f, Bool.and_eq_true, Bool.not_eq_true', Bool.not_true, Bool.not_false, and_true, true_and] at hQz); simp only [go_sem, *] <;> rfl)); (case hp => intro hQz; first | exact c4 | (have hXz := c4; simp only [go_sem, *] at hXz; exact hXz)))
    | (apply st_c; (case hc => (simp only [go_sem, *] <;> rfl)); (case hl => (simp only [go_sem, *] <;> rfl)); (case hn => (simp only [go_sem, *] <;> rfl)); (case hp => first | exact c5 | (have hXz := c5; simp only [go_sem, *] at hXz; exact hXz)))
    | (apply st_mc; (case hop => rfl); (case hg => (simp only [go_sem, *] <;> rfl)); (case hc => (intro hQz; (try simp only [wantB_t, wantB_f, Bool.and_eq_true, Bool.not_eq_true', Bool.not_true, Bool.not_false, and_true, true_and] at hQz); simp only [go_sem, *] <;> rfl)); (case hl => (intro hQz; (try simp only [wantB_t, wantB_f, Bool.and_eq_true, Bool.not_eq_true', Bool.not_true, Bool.not_false, and_true, true_and] at hQz); simp only [go_sem, *] <;> rfl)); (case hn => (intro hQz; (try simp only [wantB_t, wantB_f, Bool.and_eq_true, Bool.not_eq_true', Bool.not_true, Bool.not_false, and_true, true_and] at hQz); simp only [go_sem, *] <;> rfl)); (case hp => intro hQz; first | exact c6 | (have hXz := c6; simp only [go_sem, *] at hXz; exact hXz)))
    | (apply st_mc; (case hop => rfl); (case hg => (simp only [go_sem, *] <;> rfl)); (case hc => (intro hQz; (try simp only [wantB_t, wantB_f, Bool.and_eq_true, Bool.not_eq_true', Bool.not_true, Bool.not_false, and_true, true_and] at hQz); simp only [go_sem, *] <;> rfl)); (case hl => (intro hQz; (try simp only [wantB_t, wantB_f, Bool.and_eq_true, Bool.not_eq_true', Bool.not_true, Bool.not_false, and_true, true_and] at hQz); simp only [go_sem, *] <;> rfl)); (case hn => (intro hQz; (try simp only [wantB_t, wantB_f, Bool.and_eq_true, Bool.not_eq_true', Bool.not_true, Bool.not_false, and_true, true_and] at hQz); simp only [go_sem, *] <;> rfl)); (case hp => intro hQz; first | exact awake_ok | (have hXz := awake_ok; simp only [go_sem, *] at hXz; exact hXz)))
    | (refine Awp.ret ?_; try simp only [go_sem, *])
    | (refine Awp.skip ?_; try simp only [go_sem, *])
    | (apply Awp.cond; (case hc => (simp only [go_sem, *] <;> rfl)); all_goals (intro hg; (try simp only [Bool.not_true, Bool.not_false, reduceCtorEq] at hg)))
    | refine Awp.seq ?_)
      all_goals repeat' (first | exact Lower.bool (by first | rfl | (simp only [true_and, Bool.true_and, Bool.false_and, Bool.and_true, Bool.and_false, Bool.true_or, Bool.false_or, reduceIte, Bool.false_eq_true, *]; done) | (simp only [true_and, reduceIte, Bool.false_eq_true, *] <;> rfl) | (simp [true_and]; done) | (simp_all [true_and]; done) | omega))
  · have hb := ren_bad hE
    have hE' : ((renE l x.nm x.p x.a x.h).2 != 0) = true := by simpa using hE
    rw [hb] at c1
    clear hb h1 hs hs' hgs hl hc hE
    generalize (renE l x.nm x.p x.a x.h).2 = E at *
    refine fn_pure Try.F7 (Nat.le_of_ble_eq_true rfl) ?_; unfold Try.ac7
    repeat' (first
    | (apply Awp.sreg; (case hn => (simp only [List.length_cons, List.length_nil, Nat.reduceAdd] <;> rfl)))
    | (refine st_nil ?_)
    | (apply st_a; (case hc => rfl); (case he => (simp only [go_sem, *] <;> rfl)); (case hu => (simp only [updL_nil, updL_cons] <;> rfl)); (case hp => first | trivial))
    | (apply st_m; (case hc => rfl); (case hg => (simp only [go_sem, *] <;> rfl)); (case he => (intro hQz; (try simp only [wantB_t, wantB_f, Bool.and_eq_true, Bool.not_eq_true', Bool.not_true, Bool.not_false, and_true, true_and] at hQz); simp only [go_sem, *] <;> rfl)); (case hp => (intro hQz; (try simp only [wantB_t, wantB_f, Bool.and_eq_true, Bool.not_eq_true', Bool.or_eq_false_iff, decide_eq_true_eq, decide_eq_false_iff_not, beq_iff_eq, beq_eq_false_iff_ne, bne_iff_ne, bne_eq_false_iff_eq, Int.not_lt, Int.not_le, Int.ofNat_lt, Int.ofNat_le] at hQz); first | trivial)))
    | (apply st_c; (case hc => (simp only [go_sem, *] <;> rfl)); (case hl => (simp only [go_sem, *] <;> rfl)); (case hn => (simp only [go_sem, *] <;> rfl)); (case hp => first | exact c0 | (have hXz := c0; simp only [go_sem, *] at hXz; exact hXz)))
    | (apply st_c; (case hc => (simp only [go_sem, *] <;> rfl)); (case hl => (simp only [go_sem, *] <;> rfl)); (case hn => (simp only [go_sem, *] <;> rfl)); (case hp => first | exact c1 | (have hXz := c1; simp only [go_sem, *] at hXz; exact hXz)))
    | (apply st_mc; (case hop => rfl); (case hg => (simp only [go_sem, *] <;> rfl)); (case hc => (intro hQz; (try simp only [wantB_t, wantB_f, Bool.and_eq_true, Bool.not_eq_true', Bool.not_true, Bool.not_false, and_true, true_and] at hQz); simp only [go_sem, *] <;> rfl)); (case hl => (intro hQz; (try simp only [wantB_t, wantB_f, Bool.and_eq_true, Bool.not_eq_true', Bool.not_true, Bool.not_false, and_true, true_and] at hQz); simp only [go_sem, *] <;> rfl)); (case hn => (intro hQz; (try simp only [wantB_t, wantB_f, Bool.and_eq_true, Bool.not_eq_true', Bool.not_true, Bool.not_false, and_true, true_and] at hQz); simp only [go_sem, *] <;> rfl)); (case hp => intro hQz; first | exact awake_ok | (have hXz := awake_ok; simp only [go_sem, *] at hXz; exact hXz)))
    | (refine Awp.ret ?_; try simp only [go_sem, *])
    | (refine Awp.skip ?_; try simp only [go_sem, *])
    | (apply Awp.cond; (case hc => (simp only [go_sem, *] <;> rfl)); all_goals (intro hg; (try simp only [Bool.not_true, Bool.not_false, reduceCtorEq] at hg)))
    | refine Awp.seq ?_)
    all_goals repeat' (first | exact Lower.bool (by first | rfl | (simp only [true_and, Bool.true_and, Bool.false_and, Bool.and_true, Bool.and_false, Bool.true_or, Bool.false_or, reduceIte, Bool.false_eq_true, *]; done) | (simp only [true_and, reduceIte, Bool.false_eq_true, *] <;> rfl) | (simp [true_and]; done) | (simp_all [true_and]; done) | omega))
end Go.Proofs
end
