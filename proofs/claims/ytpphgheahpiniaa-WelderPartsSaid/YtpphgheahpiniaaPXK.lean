import Derived.Test.YtpphgheahpiniaaPXF
section
set_option linter.unusedVariables false
set_option linter.unusedSimpArgs false
namespace Go.Ab
/-- A piece of a code. -/
def ACode.sub : List Nat → ACode → ACode
  | 0 :: p, .seq a _ => a.sub p
  | _ :: p, .seq _ b => b.sub p
  | 0 :: p, .cond _ a _ => a.sub p
  | _ :: p, .cond _ _ b => b.sub p
  | _ :: p, .block _ c => c.sub p
  | _ :: p, .loop c => c.sub p
  | _ :: p, .scope c => c.sub p
  | _, c => c
end Go.Ab
end
section
set_option linter.unusedVariables false
set_option linter.unusedSimpArgs false
namespace Go.Proofs
open Go Go.Ab
set_option maxHeartbeats 8000000
set_option maxRecDepth 100000
set_option linter.unusedSimpArgs false
set_option linter.unusedVariables false
attribute [local irreducible] Awp aops aopsL Go.Ab.Pure PureOwn

theorem last_step {l : List Wl} {nm : ByteArray} {i : Nat} (hu : ∀ i j, i < l.length → j < l.length → sameN nm (l.getD i zeroWl) = true → sameN nm (l.getD j zeroWl) = true → i = j) (hi : i < l.length) :
    (sameN nm (l.getD i zeroWl) = true → idxF (sameN nm) l = i) ∧ (sameN nm (l.getD i zeroWl) = false → idxF (sameN nm) l ≠ i) := by
  rcases idxF_some (p := sameN nm) (l := l) zeroWl with ⟨hI, hn⟩ | ⟨k, hkl, hI, hk, hn⟩
  · rw [hI]
    refine ⟨fun h => ?_, fun _ => by omega⟩
    rw [hn i hi] at h; cases h
  · rw [hI]
    refine ⟨fun h => ?_, fun h e => ?_⟩
    · rw [hu k i hkl hi hk h]
    · have : k = i := by omega
      subst this
      rw [h] at hk; cases hk
def kAt (I : Int) (i : Nat) : Int := if 0 ≤ I ∧ I < i then I else -1
theorem kAt_end {α : Type} {p : α → Bool} {l : List α} (d : α) {i : Nat} (h : l.length ≤ i) : kAt (idxF p l) i = idxF p l := by
  unfold kAt
  rcases idxF_some (p := p) (l := l) d with ⟨hI, _⟩ | ⟨k, hkl, hI, _⟩
  · rw [hI, if_neg (by omega)]
  · rw [hI, if_pos (by omega)]
theorem kAt_hit {I : Int} {i : Nat} (h : I = i) : kAt I (i + 1) = i := by
  unfold kAt
  rw [if_pos (by omega), h]
theorem kAt_miss {I : Int} {i : Nat} (h : I ≠ i) : kAt I (i + 1) = kAt I i := by
  unfold kAt
  by_cases h2 : 0 ≤ I ∧ I < i
  · rw [if_pos h2, if_pos (by omega)]
  · rw [if_neg h2, if_neg (by omega)]
theorem names_one {l : List Wl} (h : chkE l = 0) (nm : ByteArray) : ∀ i j, i < l.length → j < l.length → sameN nm (l.getD i zeroWl) = true → sameN nm (l.getD j zeroWl) = true → i = j := by
  unfold chkE at h
  by_cases h32 : 32 < l.length
  · rw [if_pos h32] at h; cases h
  rw [if_neg h32, firstE_zero] at h
  have hst : ∀ i, i + 1 < l.length → strLess (l.getD i zeroWl).nm (l.getD (i + 1) zeroWl).nm = true := fun i hi => by
    have h1 := h (i + 1) hi
    unfold chkAt at h1
    by_cases hn : (!nameB (l.getD (i + 1) zeroWl).nm) = true
    · rw [if_pos hn] at h1; cases h1
    rw [if_neg hn] at h1
    by_cases h16 : 16 < (l.getD (i + 1) zeroWl).sk.length
    · rw [if_pos h16] at h1; cases h1
    rw [if_neg h16] at h1
    by_cases hs : skE (l.getD (i + 1) zeroWl).sk ≠ 0
    · rw [if_pos hs] at h1; exact absurd h1 hs
    rw [if_neg hs] at h1
    cases hp : prevW l (i + 1)
    · unfold prevW leS at hp
      rw [Nat.add_sub_cancel, decide_eq_true (Nat.succ_pos i), Bool.true_and, Bool.or_eq_false_iff] at hp
      rw [strLess_iff]
      rcases lex_tri (l.getD i zeroWl).nm.toList (l.getD (i + 1) zeroWl).nm.toList with k | k | k
      · exact k
      · have := hp.2
        rw [k] at this
        simp at this
      · rw [← strLess_iff, hp.1] at k; cases k
    · rw [hp] at h1; cases h1
  have hlt : ∀ i d, i + 1 + d < l.length → strLess (l.getD i zeroWl).nm (l.getD (i + 1 + d) zeroWl).nm = true := by
    intro i d
    induction d with
    | zero => exact hst i
    | succ d ih => intro hd; exact strLess_trans (ih (by omega)) (hst (i + 1 + d) hd)
  have key : ∀ i j, i < j → j < l.length → sameN nm (l.getD i zeroWl) = true → sameN nm (l.getD j zeroWl) = true → False := fun i j hij hj h1 h2 => by
    obtain ⟨d, rfl⟩ : ∃ d, j = i + 1 + d := ⟨j - (i + 1), by omega⟩
    have h3 := hlt i d hj
    unfold sameN at h1 h2
    rw [beq_iff_eq] at h1 h2
    rw [strLess_iff, h1, h2] at h3
    exact List.lt_irrefl _ h3
  intro i j hi hj h1 h2
  rcases Nat.lt_trichotomy i j with k | k | k
  · exact (key i j k hj h1 h2).elim
  · exact k
  · exact (key j i k hi h2 h1).elim
def outAt (l : List Wl) (i : Nat) (J : List Sk) (k : Nat) : List Wl := (l.take k).mapIdx fun j q => if j = i then ⟨q.nm, J⟩ else q
theorem outAt_len (l : List Wl) (i : Nat) (J : List Sk) (k : Nat) : (outAt l i J k).length = (l.take k).length := by simp [outAt]
theorem outAt_step (l : List Wl) (i : Nat) (J : List Sk) (k : Nat) (h : k < l.length) : outAt l i J (k + 1) = outAt l i J k ++ [if k = i then ⟨(l.getD k zeroWl).nm, J⟩ else l.getD k zeroWl] := by
  unfold outAt
  rw [take_snoc l zeroWl k h, List.mapIdx_append]
  have e : (l.take k).length = k := List.length_take_of_le (by omega)
  simp [e]
theorem outAt_end (l : List Wl) (i : Nat) (J : List Sk) (hi : i < l.length) : outAt l i J l.length = l.set i ⟨(l.getD i zeroWl).nm, J⟩ := by
  unfold outAt
  rw [List.take_of_length_le (Nat.le_refl _)]
  apply List.ext_getElem (by simp)
  intro j h1 h2
  simp only [List.getElem_mapIdx, List.getElem_set]
  by_cases hj : j = i
  · subst hj
    rw [if_pos rfl, if_pos rfl, getD_get l zeroWl j hi]
  · rw [if_neg hj, if_neg (fun e => hj e.symm)]
end Go.Proofs
end
section
set_option linter.unusedVariables false
set_option linter.unusedSimpArgs false
namespace Go.Proofs
open Go Go.Ab
set_option maxHeartbeats 8000000
set_option maxRecDepth 100000
set_option linter.unusedSimpArgs false
set_option linter.unusedVariables false
attribute [local irreducible] Awp aops aopsL Go.Ab.Pure PureOwn

theorem renE_len {l : List Wl} {nm p : ByteArray} {a h : Int} (hl : l.length ≤ 40) (hsk : ∀ i, i < l.length → (l.getD i zeroWl).sk.length ≤ 40) : (renE l nm p a h).1.length ≤ 40 ∧ ∀ i, i < (renE l nm p a h).1.length → ((renE l nm p a h).1.getD i zeroWl).sk.length ≤ 41 := by
  unfold renE
  split
  · exact ⟨by simp, by simp⟩
  split
  · exact ⟨by simp, by simp⟩
  split
  · exact ⟨by simp, by simp⟩
  unfold renAt
  split
  · exact ⟨by simp, by simp⟩
  · rename_i hJ
    refine ⟨by simpa using hl, fun i hi => ?_⟩
    have hi' : i < l.length := by simpa using hi
    have e : (l.set (idxF (sameN nm) l).toNat ⟨(l.getD (idxF (sameN nm) l).toNat zeroWl).nm, renJ l p a h (idxF (sameN nm) l).toNat⟩).getD i zeroWl = if (idxF (sameN nm) l).toNat = i then ⟨(l.getD (idxF (sameN nm) l).toNat zeroWl).nm, renJ l p a h (idxF (sameN nm) l).toNat⟩ else l.getD i zeroWl := by
      simp only [List.getD_eq_getElem?_getD, List.getElem?_set]
      by_cases h : (idxF (sameN nm) l).toNat = i
      · rw [if_pos h, if_pos h, if_pos (by omega)]; rfl
      · rw [if_neg h, if_neg h]
    show (List.getD (l.set _ _) i zeroWl).sk.length ≤ 41
    rw [e]
    split
    · show (renJ l p a h _).length ≤ 41
      omega
    · have := hsk i hi'; omega
end Go.Proofs
end
section
set_option linter.unusedVariables false
set_option linter.unusedSimpArgs false
namespace Go.Proofs
open Go Go.Ab
set_option maxHeartbeats 8000000
set_option maxRecDepth 100000
set_option linter.unusedSimpArgs false
set_option linter.unusedVariables false
attribute [local irreducible] Awp aops aopsL Go.Ab.Pure PureOwn

def Bef (x y : Sk) : Prop := x.p.toList < y.p.toList ∨ (x.p.toList = y.p.toList ∧ x.b ≤ y.a)
theorem skE_iff (l : List Sk) : skE l = 0 ↔ (∀ x ∈ l, nameB x.p = true ∧ 0 ≤ x.a ∧ x.a < x.b ∧ x.b ≤ 1048576) ∧ l.Pairwise Bef := by
  have key : ∀ i, skAt l i = 0 ↔ (nameB (l.getD i zeroSk).p = true ∧ (0 ≤ (l.getD i zeroSk).a ∧ (l.getD i zeroSk).a < (l.getD i zeroSk).b ∧ (l.getD i zeroSk).b ≤ 1048576)) ∧ ordAt l i = false := fun i => by
    unfold skAt rngS
    cases nameB (l.getD i zeroSk).p
    · simp
    · have e : ((decide ((l.getD i zeroSk).a < 0) || decide ((l.getD i zeroSk).b ≤ (l.getD i zeroSk).a) || decide (1048576 < (l.getD i zeroSk).b)) = true) ↔ ¬ (0 ≤ (l.getD i zeroSk).a ∧ (l.getD i zeroSk).a < (l.getD i zeroSk).b ∧ (l.getD i zeroSk).b ≤ 1048576) := by
        simp only [Bool.or_eq_true, decide_eq_true_eq]; omega
      rw [if_neg (by simp)]
      by_cases h : (0 ≤ (l.getD i zeroSk).a ∧ (l.getD i zeroSk).a < (l.getD i zeroSk).b ∧ (l.getD i zeroSk).b ≤ 1048576)
      · rw [if_neg (fun k => e.1 k h)]
        cases ordAt l i
        · exact ⟨fun _ => ⟨⟨rfl, h⟩, rfl⟩, fun _ => rfl⟩
        · simp
      · rw [if_pos (e.2 h)]
        constructor
        · intro k; exact absurd k (by decide)
        · intro k; exact absurd k.1.2 h
  have kord : ∀ i, i + 1 < l.length → (ordAt l (i + 1) = false ↔ Bef (l.getD i zeroSk) (l.getD (i + 1) zeroSk)) := fun i hi => by
    unfold ordAt ordS Bef
    rw [Nat.add_sub_cancel, decide_eq_true (Nat.succ_pos i), Bool.true_and, Bool.or_eq_false_iff]
    rcases lex_tri (l.getD i zeroSk).p.toList (l.getD (i + 1) zeroSk).p.toList with k | k | k
    · have h1 : strLess (l.getD (i + 1) zeroSk).p (l.getD i zeroSk).p = false := by
        rw [Bool.eq_false_iff]; intro h; rw [strLess_iff] at h; exact List.lt_irrefl _ (List.lt_trans h k)
      have h2 : ((l.getD (i + 1) zeroSk).p.toList == (l.getD i zeroSk).p.toList) = false := by
        rw [Bool.eq_false_iff]; intro h; rw [beq_iff_eq] at h; rw [h] at k; exact List.lt_irrefl _ k
      rw [h1, h2]
      exact ⟨fun _ => .inl k, fun _ => ⟨rfl, rfl⟩⟩
    · have h1 : strLess (l.getD (i + 1) zeroSk).p (l.getD i zeroSk).p = false := by
        rw [Bool.eq_false_iff]; intro h; rw [strLess_iff, k] at h; exact List.lt_irrefl _ h
      have h2 : ((l.getD (i + 1) zeroSk).p.toList == (l.getD i zeroSk).p.toList) = true := by rw [beq_iff_eq]; exact k.symm
      rw [h1, h2, Bool.true_and, decide_eq_false_iff_not]
      constructor
      · rintro ⟨_, h⟩; exact .inr ⟨k, by omega⟩
      · rintro (h | h)
        · rw [k] at h; exact absurd h (List.lt_irrefl _)
        · exact ⟨rfl, by omega⟩
    · have h1 : strLess (l.getD (i + 1) zeroSk).p (l.getD i zeroSk).p = true := by rw [strLess_iff]; exact k
      rw [h1]
      constructor
      · rintro ⟨h, _⟩; cases h
      · rintro (h | h)
        · exact absurd (List.lt_trans h k) (List.lt_irrefl _)
        · rw [h.1] at k; exact absurd k (List.lt_irrefl _)
  have k0 : ordAt l 0 = false := by unfold ordAt; simp
  unfold skE
  rw [firstE_zero]
  constructor
  · intro h
    have hr : ∀ x ∈ l, nameB x.p = true ∧ 0 ≤ x.a ∧ x.a < x.b ∧ x.b ≤ 1048576 := fun x hx => by
      obtain ⟨i, hi, rfl⟩ := List.getElem_of_mem hx
      have := ((key i).1 (h i hi)).1
      rw [getD_get l zeroSk i hi] at this
      exact this
    refine ⟨hr, ?_⟩
    rw [List.pairwise_iff_getElem]
    intro i j hi hj hij
    obtain ⟨d, rfl⟩ : ∃ d, j = i + 1 + d := ⟨j - (i + 1), by omega⟩
    induction d with
    | zero =>
      have := (kord i hj).1 ((key (i + 1)).1 (h (i + 1) hj)).2
      rw [getD_get l zeroSk i hi, getD_get l zeroSk (i + 1) hj] at this
      exact this
    | succ d ih =>
      have h1 := ih (by omega) (by omega)
      have h2 := (kord (i + 1 + d) (by omega)).1 ((key (i + 1 + d + 1)).1 (h _ (by omega))).2
      rw [getD_get l zeroSk (i + 1 + d) (by omega), getD_get l zeroSk (i + 1 + d + 1) (by omega)] at h2
      have h3 := hr _ (List.getElem_mem (show i + 1 + d < l.length by omega))
      show Bef l[i] l[i + 1 + d + 1]
      unfold Bef at h1 h2 ⊢
      rcases h1 with h1 | h1 <;> rcases h2 with h2 | h2
      · exact .inl (List.lt_trans h1 h2)
      · exact .inl (by rw [← h2.1]; exact h1)
      · exact .inl (by rw [h1.1]; exact h2)
      · exact .inr ⟨h1.1.trans h2.1, by omega⟩
  · rintro ⟨hr, hp⟩ i hi
    have h1 := hr _ (List.getElem_mem hi)
    rw [← getD_get l zeroSk i hi] at h1
    refine (key i).2 ⟨h1, ?_⟩
    match i, hi with
    | 0, _ => exact k0
    | i + 1, hi =>
      rw [kord i hi, getD_get l zeroSk i (by omega), getD_get l zeroSk (i + 1) hi]
      exact List.pairwise_iff_getElem.1 hp i (i + 1) (by omega) hi (by omega)
theorem bef_key {x y : Sk} (hx : x.a < x.b) (h : Bef x y) : keyLt x y = true := by
  rw [keyLt_iff]
  unfold Bef at h
  rcases h with h | h
  · exact .inl h
  · exact .inr ⟨h.1, by omega⟩
theorem pair_or {α : Type} {R : α → α → Prop} {l : List α} (h : l.Pairwise R) {x y : α} (hx : x ∈ l) (hy : y ∈ l) (hn : x ≠ y) : R x y ∨ R y x := by
  induction l with
  | nil => cases hx
  | cons z l ih =>
    have hp := List.pairwise_cons.1 h
    rcases List.mem_cons.1 hx with rfl | hx'
    · rcases List.mem_cons.1 hy with rfl | hy'
      · exact absurd rfl hn
      · exact .inl (hp.1 y hy')
    · rcases List.mem_cons.1 hy with rfl | hy'
      · exact .inr (hp.1 x hx')
      · exact ih hp.2 hx' hy'
theorem key_bef {l : List Sk} (hr : ∀ x ∈ l, x.a < x.b) (h : l.Pairwise Bef) {x y : Sk} (hx : x ∈ l) (hy : y ∈ l) (hk : keyLt x y = true) : Bef x y := by
  have hn : x ≠ y := fun e => by rw [e] at hk; exact keyLt_irrefl _ hk
  rcases pair_or h hx hy hn with k | k
  · exact k
  · exact absurd (keyLt_trans _ _ _ hk (bef_key (hr y hy) k)) (keyLt_irrefl _)
theorem jnB_iff (s x : Sk) : jnB s x = true ↔ x.p.toList = s.p.toList ∧ x.a ≤ s.b ∧ s.a ≤ x.b := by
  unfold jnB
  rw [Bool.and_eq_true, Bool.and_eq_true, beq_iff_eq, decide_eq_true_eq, decide_eq_true_eq, and_assoc]
theorem mer_b (s0 : Sk) : ∀ (l : List Sk) (s : Sk), (l.foldl (merS s0) s).b = s.b ∨ ∃ y ∈ l, jnB s0 y = true ∧ (l.foldl (merS s0) s).b = y.b
  | [], s => .inl rfl
  | x :: l, s => by
    rw [List.foldl_cons]
    rcases mer_b s0 l (merS s0 s x) with h | ⟨y, hy, h1, h2⟩
    · rw [h]
      unfold merS
      by_cases hj : jnB s0 x = true
      · rw [if_pos hj]
        show max s.b x.b = s.b ∨ _
        by_cases hm : x.b ≤ s.b
        · exact .inl (Int.max_eq_left hm)
        · exact .inr ⟨x, by simp, hj, Int.max_eq_right (by omega)⟩
      · rw [if_neg hj]; exact .inl rfl
    · exact .inr ⟨y, by simp [hy], h1, h2⟩
theorem mer_le (s0 : Sk) : ∀ (l : List Sk) (s : Sk), ((l.foldl (merS s0) s).a ≤ s.a ∧ s.b ≤ (l.foldl (merS s0) s).b) ∧ ∀ y ∈ l, jnB s0 y = true → (l.foldl (merS s0) s).a ≤ y.a ∧ y.b ≤ (l.foldl (merS s0) s).b
  | [], s => ⟨⟨Int.le_refl _, Int.le_refl _⟩, by simp⟩
  | x :: l, s => by
    rw [List.foldl_cons]
    have h := mer_le s0 l (merS s0 s x)
    have h2 : (merS s0 s x).a ≤ s.a ∧ s.b ≤ (merS s0 s x).b ∧ (jnB s0 x = true → (merS s0 s x).a ≤ x.a ∧ x.b ≤ (merS s0 s x).b) := by
      unfold merS
      by_cases hj : jnB s0 x = true
      · rw [if_pos hj]
        show min s.a x.a ≤ s.a ∧ s.b ≤ max s.b x.b ∧ (_ → min s.a x.a ≤ x.a ∧ x.b ≤ max s.b x.b)
        omega
      · rw [if_neg hj]
        exact ⟨Int.le_refl _, Int.le_refl _, fun k => absurd k hj⟩
    refine ⟨by omega, fun y hy hj => ?_⟩
    rcases List.mem_cons.1 hy with rfl | hy
    · have := h2.2.2 hj; omega
    · exact h.2 y hy hj
theorem join_skE {l : List Sk} (hl : skE l = 0) {s : Sk} (hn : nameB s.p = true) (h0 : 0 ≤ s.a ∧ s.a < s.b ∧ s.b ≤ 1048576) : skE (joinE l s) = 0 := by
  have hg := goodS_of hl
  rw [skE_iff] at hl
  have hr : ∀ x ∈ l, x.a < x.b := fun x hx => (hl.1 x hx).2.2.1
  have hmp : (mer s l).p = s.p := mer_p s l s
  have hma := mer_a s l s
  have hmb := mer_b s l s
  have hml := mer_le s l s
  rw [show l.foldl (merS s) s = mer s l from rfl] at hma hmb hml
  have hmab : (mer s l).a < (mer s l).b := by omega
  have hm : ∀ x, x ∈ joinE l s ↔ x = mer s l ∨ (x ∈ l ∧ jnB s x = false) := fun x => by
    unfold joinE
    rw [(insK_perm _ _).mem_iff, List.mem_cons]
    unfold oth
    rw [List.mem_filter]
    simp
  have hcmp : ∀ x ∈ l, jnB s x = false → x.p.toList = s.p.toList → x.b ≤ (mer s l).a ∨ (mer s l).b ≤ x.a := fun x hx hj hp => by
    have hj' : ¬ (x.a ≤ s.b ∧ s.a ≤ x.b) := fun k => by
      have := (jnB_iff s x).2 ⟨hp, k.1, k.2⟩
      rw [hj] at this; cases this
    have hxr := hr x hx
    have hdis : ∀ y ∈ l, jnB s y = true → x.b ≤ y.a ∨ y.b ≤ x.a := fun y hy hjy => by
      have hne : x ≠ y := fun e => by rw [e, hjy] at hj; cases hj
      have hyp := ((jnB_iff s y).1 hjy).1
      rcases pair_or hl.2 hx hy hne with k | k
      · unfold Bef at k
        rcases k with k | k
        · rw [hp, hyp] at k; exact absurd k (List.lt_irrefl _)
        · exact .inl k.2
      · unfold Bef at k
        rcases k with k | k
        · rw [hp, hyp] at k; exact absurd k (List.lt_irrefl _)
        · exact .inr k.2
    by_cases hc : s.b < x.a
    · right
      rcases hmb with k | ⟨y, hy, hjy, k⟩
      · omega
      · have h1 := hdis y hy hjy
        have h2 := (jnB_iff s y).1 hjy
        have h3 := hr y hy
        omega
    · left
      rcases hma with k | ⟨y, hy, hjy, k⟩
      · omega
      · have h1 := hdis y hy hjy
        have h2 := (jnB_iff s y).1 hjy
        have h3 := hr y hy
        omega
  have hasc : (joinE l s).Pairwise (fun x y => keyLt x y = true) := insK_asc (mer s l) (hg.asc.filter _) (oth_key hg h0.2.1)
  rw [skE_iff]
  refine ⟨fun x hx => ?_, ?_⟩
  · rcases (hm x).1 hx with rfl | h
    · rw [hmp]
      refine ⟨hn, ?_⟩
      have h1 : 0 ≤ (mer s l).a := by
        rcases hma with k | ⟨y, hy, _, k⟩
        · omega
        · have := hl.1 y hy; omega
      have h2 : (mer s l).b ≤ 1048576 := by
        rcases hmb with k | ⟨y, hy, _, k⟩
        · omega
        · have := hl.1 y hy; omega
      omega
    · exact hl.1 x h.1
  · refine hasc.imp_of_mem fun {x y} hx hy hk => ?_
    rcases (hm x).1 hx with hxm | hxl <;> rcases (hm y).1 hy with hym | hyl
    · rw [hxm, hym] at hk; exact absurd hk (keyLt_irrefl _)
    · rw [keyLt_iff, hxm, hmp] at hk
      unfold Bef
      rw [hxm, hmp]
      rcases hk with hk | hk
      · exact .inl hk
      · have := hcmp y hyl.1 hyl.2 hk.1.symm
        have := hr y hyl.1
        exact .inr ⟨hk.1, by omega⟩
    · rw [keyLt_iff, hym, hmp] at hk
      unfold Bef
      rw [hym, hmp]
      rcases hk with hk | hk
      · exact .inl hk
      · have := hcmp x hxl.1 hxl.2 hk.1
        have := hr x hxl.1
        exact .inr ⟨hk.1, by omega⟩
    · exact key_bef hr hl.2 hxl.1 hyl.1 hk
theorem hasQ_iff (p : ByteArray) (t : Int) (s : Sk) : hasQ p t s = true ↔ s.p.toList = p.toList ∧ s.a ≤ t ∧ t < s.b := by
  unfold hasQ
  rw [Bool.and_eq_true, Bool.and_eq_true, beq_iff_eq, decide_eq_true_eq, decide_eq_true_eq, and_assoc]
theorem join_has (l : List Sk) (s : Sk) (p : ByteArray) (t : Int) : (joinE l s).any (hasQ p t) = (hasQ p t s || l.any (hasQ p t)) := by
  have hmp : (mer s l).p = s.p := mer_p s l s
  have hma := mer_a s l s
  have hmb := mer_b s l s
  have hml := mer_le s l s
  rw [show l.foldl (merS s) s = mer s l from rfl] at hma hmb hml
  have hm : ∀ x, x ∈ joinE l s ↔ x = mer s l ∨ (x ∈ l ∧ jnB s x = false) := fun x => by
    unfold joinE
    rw [(insK_perm _ _).mem_iff, List.mem_cons]
    unfold oth
    rw [List.mem_filter]
    simp
  rw [Bool.eq_iff_iff, Bool.or_eq_true, List.any_eq_true, List.any_eq_true]
  constructor
  · rintro ⟨z, hz, hq⟩
    rcases (hm z).1 hz with rfl | h
    · rw [hasQ_iff, hmp] at hq
      by_cases h1 : t < s.a
      · rcases hma with k | ⟨y, hy, hj, k⟩
        · omega
        · have hj := (jnB_iff s y).1 hj
          exact .inr ⟨y, hy, (hasQ_iff p t y).2 ⟨hj.1.trans hq.1, by omega⟩⟩
      · by_cases h2 : t < s.b
        · exact .inl ((hasQ_iff p t s).2 ⟨hq.1, by omega, h2⟩)
        · rcases hmb with k | ⟨y, hy, hj, k⟩
          · omega
          · have hj := (jnB_iff s y).1 hj
            exact .inr ⟨y, hy, (hasQ_iff p t y).2 ⟨hj.1.trans hq.1, by omega⟩⟩
    · exact .inr ⟨z, h.1, hq⟩
  · rintro (h | ⟨x, hx, hq⟩)
    · have h := (hasQ_iff p t s).1 h
      refine ⟨mer s l, (hm _).2 (.inl rfl), (hasQ_iff p t _).2 ?_⟩
      rw [hmp]
      exact ⟨h.1, by omega, by omega⟩
    · by_cases hj : jnB s x = true
      · have h := (hasQ_iff p t x).1 hq
        have h2 := hml.2 x hx hj
        have h3 := (jnB_iff s x).1 hj
        refine ⟨mer s l, (hm _).2 (.inl rfl), (hasQ_iff p t _).2 ?_⟩
        rw [hmp]
        exact ⟨h3.1.symm.trans h.1, by omega, by omega⟩
      · exact ⟨x, (hm x).2 (.inr ⟨hx, by simpa using hj⟩), hq⟩
theorem set_at (l : List Wl) (k : Nat) (w : Wl) (i : Nat) (hk : k < l.length) : (l.set k w).getD i zeroWl = if k = i then w else l.getD i zeroWl := by
  simp only [List.getD_eq_getElem?_getD, List.getElem?_set]
  by_cases h : k = i
  · rw [if_pos h, if_pos h, if_pos (by omega)]; rfl
  · rw [if_neg h, if_neg h]
theorem set_chk {l : List Wl} (h : chkE l = 0) {k : Nat} (hk : k < l.length) {J : List Sk} (hJ : skE J = 0) (h16 : J.length ≤ 16) : chkE (l.set k ⟨(l.getD k zeroWl).nm, J⟩) = 0 := by
  unfold chkE at h ⊢
  rw [List.length_set]
  by_cases h32 : 32 < l.length
  · rw [if_pos h32] at h; cases h
  rw [if_neg h32, firstE_zero] at h ⊢
  have hnm : ∀ i, ((l.set k ⟨(l.getD k zeroWl).nm, J⟩).getD i zeroWl).nm = (l.getD i zeroWl).nm := fun i => by
    rw [set_at l k _ i hk]
    by_cases e : k = i
    · rw [if_pos e, e]
    · rw [if_neg e]
  intro i hi
  have h1 := h i hi
  unfold chkAt prevW at h1 ⊢
  rw [hnm, hnm, set_at l k _ i hk]
  by_cases e : k = i
  · rw [if_pos e]
    dsimp only
    rw [hJ, if_neg (show ¬ 16 < J.length by omega), if_neg (show ¬ (0 : Int) ≠ 0 by simp)]
    by_cases hn : (!nameB (l.getD i zeroWl).nm) = true
    · rw [if_pos hn] at h1; cases h1
    rw [if_neg hn] at h1 ⊢
    by_cases h2 : 16 < (l.getD i zeroWl).sk.length
    · rw [if_pos h2] at h1; cases h1
    rw [if_neg h2] at h1
    by_cases h3 : skE (l.getD i zeroWl).sk ≠ 0
    · rw [if_pos h3] at h1; exact absurd h1 h3
    rw [if_neg h3] at h1
    exact h1
  · rw [if_neg e]
    exact h1
theorem chk_each {l : List Wl} (h : chkE l = 0) : ∀ i, i < l.length → nameB (l.getD i zeroWl).nm = true ∧ (l.getD i zeroWl).sk.length ≤ 16 ∧ skE (l.getD i zeroWl).sk = 0 := fun i hi => by
  unfold chkE at h
  by_cases h32 : 32 < l.length
  · rw [if_pos h32] at h; cases h
  rw [if_neg h32, firstE_zero] at h
  have h1 := h i hi
  unfold chkAt at h1
  by_cases hn : (!nameB (l.getD i zeroWl).nm) = true
  · rw [if_pos hn] at h1; cases h1
  rw [if_neg hn] at h1
  by_cases h2 : 16 < (l.getD i zeroWl).sk.length
  · rw [if_pos h2] at h1; cases h1
  rw [if_neg h2] at h1
  by_cases h3 : skE (l.getD i zeroWl).sk ≠ 0
  · rw [if_pos h3] at h1; exact absurd h1 h3
  exact ⟨by simpa using hn, by omega, by simpa using h3⟩
theorem name_short {p : ByteArray} (h : nameB p = true) : p.size ≤ 16 := by
  unfold nameB at h
  simp only [Bool.and_eq_true, decide_eq_true_eq] at h
  have := h.1.1.2
  omega
theorem chk_few {l : List Wl} (h : chkE l = 0) : fewB l = true := by
  have h32 := (chk_good h).1
  have he := chk_each h
  unfold fewB
  rw [Bool.and_eq_true, decide_eq_true_eq]
  refine ⟨?_, by omega⟩
  rw [Bool.not_eq_true', List.any_eq_false]
  intro q hq
  obtain ⟨i, hi, rfl⟩ := List.getElem_of_mem (List.mem_of_mem_take hq)
  have h1 := he i hi
  rw [getD_get l zeroWl i hi] at h1
  have h2 := name_short h1.1
  unfold bigW
  have h3 : l[i].sk.any longS = false := by
    rw [List.any_eq_false]
    intro s hs
    have := name_short (((skE_iff _).1 h1.2.2).1 s hs).1
    unfold longS
    rw [decide_eq_true_eq]
    omega
  rw [h3]
  simp only [Bool.or_false, Bool.or_eq_true, decide_eq_true_eq]
  omega
theorem ren_ok {l : List Wl} (h : chkE l = 0) {nm p : ByteArray} {a hh : Int} (he : (renE l nm p a hh).2 = 0) :
    chkE (renE l nm p a hh).1 = 0 ∧ (renE l nm p a hh).1.length = l.length ∧ (0 ≤ a ∧ a ≤ 1048576 ∧ 1 ≤ hh ∧ hh ≤ 1048576) ∧
    ∀ (n q : ByteArray) (t : Int), qualB (renE l nm p a hh).1 n q t = (((n.toList == nm.toList) && ((q.toList == p.toList) && (decide (a ≤ t) && decide (t < a + hh)))) || qualB l n q t) := by
  unfold renE at he ⊢
  rcases idxF_some (p := sameN nm) (l := l) zeroWl with ⟨hI, _⟩ | ⟨i, hil, hI, hnm, _⟩
  · rw [hI, if_pos (by decide)] at he; cases he
  rw [hI, if_neg (by omega)] at he ⊢
  cases hN : nameB p
  · rw [hN, if_pos (by decide)] at he; cases he
  rw [hN, if_neg (by simp)] at he
  rw [if_neg (by simp)]
  cases hB : badR a hh
  case true => rw [hB, if_pos rfl] at he; cases he
  rw [hB, if_neg (by simp)] at he
  rw [if_neg (by simp)]
  obtain ⟨ha0, ha1, hh0, hh1, hah, hwr⟩ := badR_no hB
  rw [Int.toNat_natCast] at he ⊢
  unfold renAt at he ⊢
  by_cases hJ : 16 < (renJ l p a hh i).length
  · rw [if_pos hJ] at he; cases he
  rw [if_neg hJ]
  have hE := chk_each h i hil
  have hsk : skE (renJ l p a hh i) = 0 := join_skE hE.2.2 hN ⟨ha0, by show a < a + hh; omega, hah⟩
  have hnm' : (l.getD i zeroWl).nm.toList = nm.toList := by unfold sameN at hnm; rw [beq_iff_eq] at hnm; exact hnm
  refine ⟨set_chk h hil hsk (by omega), by simp, ⟨ha0, ha1, hh0, hh1⟩, fun n q t => ?_⟩
  have hq : validB q t ⟨(l.getD i zeroWl).nm, renJ l p a hh i⟩ = (((q.toList == p.toList) && (decide (a ≤ t) && decide (t < a + hh))) || validB q t (l.getD i zeroWl)) := by
    unfold validB renJ
    dsimp only
    rw [join_has]
    congr 1
    unfold hasQ
    dsimp only
    rw [Bool.and_assoc, Bool.beq_comm]
  show qualB (l.set i ⟨(l.getD i zeroWl).nm, renJ l p a hh i⟩) n q t = _
  have hone := names_one h n
  rw [Bool.eq_iff_iff]
  unfold qualB
  rw [Bool.or_eq_true, List.any_eq_true, List.any_eq_true]
  have hw : ∀ w : Wl, qualW n q t w = true ↔ w.nm.toList = n.toList ∧ validB q t w = true := fun w => by
    unfold qualW; rw [Bool.and_eq_true, beq_iff_eq]
  constructor
  · rintro ⟨w, hw1, hw2⟩
    obtain ⟨j, hj, rfl⟩ := List.getElem_of_mem hw1
    have hj' : j < l.length := by simpa using hj
    rw [← getD_get _ zeroWl j hj, set_at l i _ j hil] at hw2
    by_cases e : i = j
    · rw [if_pos e, hw] at hw2
      dsimp only at hw2
      rw [hq, Bool.or_eq_true] at hw2
      rcases hw2.2 with k | k
      · left
        rw [Bool.and_eq_true, beq_iff_eq]
        exact ⟨hw2.1.symm.trans hnm', k⟩
      · right
        refine ⟨l.getD i zeroWl, by rw [getD_get l zeroWl i hil]; exact List.getElem_mem hil, ?_⟩
        rw [hw]; exact ⟨hw2.1, k⟩
    · rw [if_neg e] at hw2
      exact .inr ⟨l.getD j zeroWl, by rw [getD_get l zeroWl j hj']; exact List.getElem_mem hj', hw2⟩
  · have hmem : ∀ j, j < l.length → (l.set i ⟨(l.getD i zeroWl).nm, renJ l p a hh i⟩).getD j zeroWl ∈ l.set i ⟨(l.getD i zeroWl).nm, renJ l p a hh i⟩ := fun j hj => by
      rw [getD_get _ zeroWl j (by simpa using hj)]; exact List.getElem_mem _
    rintro (k | ⟨w, hw1, hw2⟩)
    · rw [Bool.and_eq_true, beq_iff_eq] at k
      refine ⟨_, hmem i hil, ?_⟩
      rw [set_at l i _ i hil, if_pos rfl, hw]
      dsimp only
      rw [hq, k.2]
      exact ⟨hnm'.trans k.1.symm, rfl⟩
    · obtain ⟨j, hj, rfl⟩ := List.getElem_of_mem hw1
      refine ⟨_, hmem j hj, ?_⟩
      rw [set_at l i _ j hil]
      by_cases e : i = j
      · subst e
        rw [if_pos rfl, hw]
        dsimp only
        rw [hw] at hw2
        rw [hq, getD_get l zeroWl i hil, hw2.2, Bool.or_true]
        exact ⟨hw2.1, rfl⟩
      · rw [if_neg e, getD_get l zeroWl j hj]
        exact hw2
theorem ren_bad {l : List Wl} {nm p : ByteArray} {a hh : Int} (he : (renE l nm p a hh).2 ≠ 0) : (renE l nm p a hh).1 = [] := by
  unfold renE renAt at he ⊢
  split at he
  · rename_i h; rw [if_pos h]
  rename_i h; rw [if_neg h]
  split at he
  · rename_i h; rw [if_pos h]
  rename_i h; rw [if_neg h]
  split at he
  · rename_i h; rw [if_pos h]
  rename_i h; rw [if_neg h]
  split at he
  · rename_i h; rw [if_pos h]
  · exact absurd rfl he
end Go.Proofs
end
section
set_option linter.unusedVariables false
set_option linter.unusedSimpArgs false
namespace Go.Proofs
open Go Go.Ab
set_option maxHeartbeats 8000000
set_option maxRecDepth 100000
set_option linter.unusedSimpArgs false
set_option linter.unusedVariables false
attribute [local irreducible] Awp aops aopsL Go.Ab.Pure PureOwn

theorem upto_beg {a t : Int} {B : List Sp} : ∀ s ∈ upto a t B, a ≤ s.a := by
  intro s hs
  have h1 := (upto_canon a t B).2 s hs
  have h2 : hasS (upto a t B) s.a := ⟨s, hs, by omega, by omega⟩
  rw [upto_has] at h2
  omega
theorem lap_glue1 {x y z : Int} {B : List Sp} (hx : x ≤ y) (hz : y ≤ z) (h : ∀ s ∈ upto x y B, ∀ t ∈ upto y z B, s.b ≠ t.a) : upto x y B ++ upto y z B = upto x z B := by
  have ca := upto_canon x y B
  have cb := upto_canon y z B
  refine canon_ext ⟨List.pairwise_append.2 ⟨ca.1, cb.1, fun s hs t ht => ?_⟩, fun s hs => ?_⟩ (upto_canon x z B) fun n => ?_
  · have h1 := upto_end s hs
    have h2 := upto_beg t ht
    have h3 := h s hs t ht
    omega
  · rcases List.mem_append.1 hs with k | k
    · exact ca.2 s k
    · exact cb.2 s k
  · rw [hasS_append, upto_has, upto_has, upto_has]
    constructor
    · rintro (⟨k1, k2⟩ | ⟨k1, k2⟩)
      · exact ⟨by omega, k2⟩
      · exact ⟨by omega, k2⟩
    · rintro ⟨k1, k2⟩
      by_cases hn : n < y
      · exact .inl ⟨by omega, k2⟩
      · exact .inr ⟨by omega, k2⟩
theorem lap_glue2 {x y z : Int} {B A C : List Sp} {u v : Sp} (hx : x ≤ y) (hz : y ≤ z) (ha : upto x y B = A ++ [u]) (hb : upto y z B = v :: C) (h : u.b = v.a) : A ++ (⟨u.a, v.b⟩ :: C) = upto x z B := by
  have ca := upto_canon x y B
  have cb := upto_canon y z B
  rw [ha] at ca
  rw [hb] at cb
  have ca1 := canon_snoc.1 ca
  have cb1 := List.pairwise_cons.1 cb.1
  have hv := cb.2 v (by simp)
  have hC : ∀ t ∈ C, t.a < t.b := fun t ht => cb.2 t (by simp [ht])
  refine canon_ext ⟨List.pairwise_append.2 ⟨ca1.1.1, List.pairwise_cons.2 ⟨fun t ht => cb1.1 t ht, cb1.2⟩, fun s hs t ht => ?_⟩, fun s hs => ?_⟩ (upto_canon x z B) fun n => ?_
  · have h1 := ca1.2.1 s hs
    rcases List.mem_cons.1 ht with rfl | ht
    · exact h1
    · have := cb1.1 t ht
      have := ca1.2.2
      omega
  · rcases List.mem_append.1 hs with k | k
    · exact ca1.1.2 s k
    · rcases List.mem_cons.1 k with rfl | k
      · have := ca1.2.2
        show u.a < v.b
        omega
      · exact hC s k
  · have hA := upto_has x y B n
    have hB := upto_has y z B n
    rw [ha, hasS_append, hasS_single] at hA
    have eb : hasS (v :: C) n ↔ (v.a ≤ n ∧ n < v.b) ∨ hasS C n := by
      rw [show v :: C = [v] ++ C from rfl, hasS_append, hasS_single]
    rw [hb, eb] at hB
    have em : hasS (A ++ (⟨u.a, v.b⟩ :: C)) n ↔ hasS A n ∨ (u.a ≤ n ∧ n < v.b) ∨ hasS C n := by
      rw [show (⟨u.a, v.b⟩ : Sp) :: C = [⟨u.a, v.b⟩] ++ C from rfl, hasS_append, hasS_append, hasS_single]
    rw [em, upto_has]
    have := ca1.2.2
    constructor
    · rintro (k | k | k)
      · have := hA.1 (.inl k); exact ⟨by omega, this.2⟩
      · by_cases hn : n < u.b
        · have := hA.1 (.inr (by omega)); exact ⟨by omega, this.2⟩
        · have := hB.1 (.inl (by omega)); exact ⟨by omega, this.2⟩
      · have := hB.1 (.inr k); exact ⟨by omega, this.2⟩
    · rintro ⟨k1, k2⟩
      by_cases hn : n < y
      · rcases hA.2 ⟨by omega, k2⟩ with k | k
        · exact .inl k
        · exact .inr (.inl (by omega))
      · rcases hB.2 ⟨by omega, k2⟩ with k | k
        · exact .inr (.inl (by omega))
        · exact .inr (.inr k)
theorem snoc_split {a : List Sp} {n : Nat} (h : a.length = n + 1) : a = a.take n ++ [a.getD n zeroSp] := by
  rw [← take_snocP a n (by omega), List.take_of_length_le (by omega)]
theorem cons_split {b : List Sp} (h : 0 < b.length) : b = b.getD 0 zeroSp :: b.drop 1 := by
  match b, h with
  | v :: C, _ => rfl
theorem lap_g1 (l : List Wl) (p : ByteArray) {x y z : Int} (hx : x ≤ y) (hz : y ≤ z) (h : ∀ n, (lapE l p ⟨x, y⟩).length = n + 1 → 0 < (lapE l p ⟨y, z⟩).length → ((lapE l p ⟨x, y⟩).getD n zeroSp).b ≠ ((lapE l p ⟨y, z⟩).getD 0 zeroSp).a) : lapE l p ⟨x, y⟩ ++ lapE l p ⟨y, z⟩ = lapE l p ⟨x, z⟩ := by
  show upto x y (busyL l p) ++ upto y z (busyL l p) = upto x z (busyL l p)
  have h : ∀ n, (upto x y (busyL l p)).length = n + 1 → 0 < (upto y z (busyL l p)).length → ((upto x y (busyL l p)).getD n zeroSp).b ≠ ((upto y z (busyL l p)).getD 0 zeroSp).a := h
  refine lap_glue1 hx hz fun s hs t ht e => ?_
  have h1 := upto_end s hs
  have h2 := upto_beg t ht
  have ca := upto_canon x y (busyL l p)
  have cb := upto_canon y z (busyL l p)
  obtain ⟨n, hn⟩ : ∃ n, (upto x y (busyL l p)).length = n + 1 := ⟨(upto x y (busyL l p)).length - 1, by have := List.length_pos_of_mem hs; omega⟩
  have hb0 := List.length_pos_of_mem ht
  have hh := h n hn hb0
  have ea := snoc_split hn
  have eb := cons_split hb0
  have hub : ((upto x y (busyL l p)).getD n zeroSp).b ≤ y := upto_end (a := x) (B := busyL l p) _ (by rw [getD_get _ zeroSp n (by omega)]; exact List.getElem_mem _)
  have hva : y ≤ ((upto y z (busyL l p)).getD 0 zeroSp).a := upto_beg (t := z) (B := busyL l p) _ (by rw [getD_get _ zeroSp 0 hb0]; exact List.getElem_mem _)
  generalize (upto x y (busyL l p)).getD n zeroSp = u at *
  generalize (upto y z (busyL l p)).getD 0 zeroSp = v at *
  rw [ea] at hs ca
  rw [eb] at ht cb
  have ca1 := canon_snoc.1 ca
  have cb1 := List.pairwise_cons.1 cb.1
  have hv := cb.2 v (by simp)
  rcases List.mem_append.1 hs with k | k
  · have := ca1.2.1 s k
    have := ca1.2.2
    omega
  · rw [List.mem_singleton] at k
    subst k
    rcases List.mem_cons.1 ht with rfl | k
    · exact hh e
    · have := cb1.1 t k
      omega
theorem lap_g2 (l : List Wl) (p : ByteArray) {x y z : Int} (hx : x ≤ y) (hz : y ≤ z) {n : Nat} (hn : (lapE l p ⟨x, y⟩).length = n + 1) (h0 : 0 < (lapE l p ⟨y, z⟩).length) (h : ((lapE l p ⟨x, y⟩).getD n zeroSp).b = ((lapE l p ⟨y, z⟩).getD 0 zeroSp).a) : (lapE l p ⟨x, y⟩).take n ++ (⟨((lapE l p ⟨x, y⟩).getD n zeroSp).a, ((lapE l p ⟨y, z⟩).getD 0 zeroSp).b⟩ :: (lapE l p ⟨y, z⟩).drop 1) = lapE l p ⟨x, z⟩ :=
  lap_glue2 (B := busyL l p) hx hz (snoc_split hn) (cons_split h0) h
def prevOk (q : List Sk) (k : Nat) : Bool := !(decide (0 < k)) || !((q.getD (k - 1) zeroSk).p.toList == (q.getD k zeroSk).p.toList) || decide ((q.getD (k - 1) zeroSk).b < (q.getD k zeroSk).a)
def nextOk (q : List Sk) (k : Nat) : Bool := !(decide (k + 1 < q.length)) || !((q.getD (k + 1) zeroSk).p.toList == (q.getD k zeroSk).p.toList) || decide ((q.getD k zeroSk).b < (q.getD (k + 1) zeroSk).a)
theorem bef_of {q : List Sk} (h : skE q = 0) {i j : Nat} (hij : i < j) (hj : j < q.length) : Bef (q.getD i zeroSk) (q.getD j zeroSk) := by
  rw [skE_iff] at h
  rw [getD_get q zeroSk i (by omega), getD_get q zeroSk j hj]
  exact List.pairwise_iff_getElem.1 h.2 i j (by omega) hj hij
theorem bef_mid {q : List Sk} (h : skE q = 0) {i j k : Nat} (hij : i ≤ j) (hjk : j ≤ k) (hk : k < q.length) (he : (q.getD i zeroSk).p.toList = (q.getD k zeroSk).p.toList) : (q.getD j zeroSk).p.toList = (q.getD k zeroSk).p.toList := by
  by_cases h1 : i = j
  · rw [← h1]; exact he
  by_cases h2 : j = k
  · rw [h2]
  rcases bef_of h (show i < j by omega) (by omega) with k1 | k1
  · rcases bef_of h (show j < k by omega) hk with k2 | k2
    · rw [he] at k1; exact absurd (List.lt_trans k1 k2) (List.lt_irrefl _)
    · exact k2.1
  · exact k1.1.symm.trans he
theorem alone_no {q : List Sk} (h : skE q = 0) {k : Nat} (hk : k < q.length) (hp : prevOk q k = true) (hn : nextOk q k = true) : ∀ j, j < q.length → j ≠ k → jnB (q.getD k zeroSk) (q.getD j zeroSk) = false := fun j hj hjk => by
  have hr : ∀ i, i < q.length → (q.getD i zeroSk).a < (q.getD i zeroSk).b := fun i hi => by
    rw [getD_get q zeroSk i hi]
    exact (((skE_iff q).1 h).1 _ (List.getElem_mem hi)).2.2.1
  rw [Bool.eq_false_iff]
  intro hjn
  rw [jnB_iff] at hjn
  by_cases hlt : j < k
  · have hm := bef_mid h (show j ≤ k - 1 by omega) (by omega) hk hjn.1
    unfold prevOk at hp
    rw [decide_eq_true (show 0 < k by omega), show ((q.getD (k - 1) zeroSk).p.toList == (q.getD k zeroSk).p.toList) = true by rw [beq_iff_eq]; exact hm] at hp
    have hp : (q.getD (k - 1) zeroSk).b < (q.getD k zeroSk).a := by simpa using hp
    have hle : (q.getD j zeroSk).b ≤ (q.getD (k - 1) zeroSk).b := by
      by_cases e : j = k - 1
      · rw [e]; exact Int.le_refl _
      · rcases bef_of h (show j < k - 1 by omega) (by omega) with k1 | k1
        · rw [hm, ← hjn.1] at k1; exact absurd k1 (List.lt_irrefl _)
        · have := hr (k - 1) (by omega)
          omega
    omega
  · have hm := bef_mid h (show k ≤ k + 1 by omega) (show k + 1 ≤ j by omega) hj hjn.1.symm
    unfold nextOk at hn
    rw [decide_eq_true (show k + 1 < q.length by omega), show ((q.getD (k + 1) zeroSk).p.toList == (q.getD k zeroSk).p.toList) = true by rw [beq_iff_eq]; exact hm.trans hjn.1] at hn
    have hn : (q.getD k zeroSk).b < (q.getD (k + 1) zeroSk).a := by simpa using hn
    have hle : (q.getD (k + 1) zeroSk).a ≤ (q.getD j zeroSk).a := by
      by_cases e : j = k + 1
      · rw [e]; exact Int.le_refl _
      · rcases bef_of h (show k + 1 < j by omega) hj with k1 | k1
        · rw [hm] at k1; exact absurd k1 (List.lt_irrefl _)
        · have := hr (k + 1) (by omega)
          omega
    omega
theorem fold_no {s : Sk} : ∀ {l : List Sk}, (∀ x ∈ l, jnB s x = false) → ∀ m, l.foldl (merS s) m = m
  | [], _, m => rfl
  | x :: l, h, m => by
    rw [List.foldl_cons]
    have e : merS s m x = m := by unfold merS; rw [if_neg (by rw [h x (by simp)]; simp)]
    rw [e]
    exact fold_no (fun y hy => h y (by simp [hy])) m
theorem alone_join {q : List Sk} (h : skE q = 0) {k : Nat} (hk : k < q.length) (hp : prevOk q k = true) (hn : nextOk q k = true) : joinE q (q.getD k zeroSk) = q := by
  have hno := alone_no h hk hp hn
  have hg := goodS_of h
  have hr : (q.getD k zeroSk).a < (q.getD k zeroSk).b := by
    rw [getD_get q zeroSk k hk]
    exact (hg.rng _ (List.getElem_mem hk)).2.1
  have hsp : q = q.take k ++ q.getD k zeroSk :: q.drop (k + 1) := by
    rw [getD_get q zeroSk k hk, ← List.drop_eq_getElem_cons hk, List.take_append_drop]
  have h1 : ∀ x ∈ q.take k, jnB (q.getD k zeroSk) x = false := fun x hx => by
    obtain ⟨j, hj, rfl⟩ := List.getElem_of_mem hx
    have hj' : j < k := by rw [List.length_take] at hj; omega
    have := hno j (by omega) (by omega)
    rw [getD_get q zeroSk j (by omega)] at this
    rw [List.getElem_take]
    exact this
  have h2 : ∀ x ∈ q.drop (k + 1), jnB (q.getD k zeroSk) x = false := fun x hx => by
    obtain ⟨j, hj, rfl⟩ := List.getElem_of_mem hx
    have hj' : k + 1 + j < q.length := by rw [List.length_drop] at hj; omega
    have := hno (k + 1 + j) hj' (by omega)
    rw [getD_get q zeroSk _ hj'] at this
    rw [List.getElem_drop]
    exact this
  have hs : jnB (q.getD k zeroSk) (q.getD k zeroSk) = true := by
    rw [jnB_iff]; exact ⟨rfl, by omega, by omega⟩
  obtain ⟨s, hse⟩ : ∃ s, q.getD k zeroSk = s := ⟨_, rfl⟩
  rw [hse] at hsp h1 h2 hs hr ⊢
  have hm : mer s q = s := by
    unfold mer
    rw [hsp, List.foldl_append, fold_no h1, List.foldl_cons, fold_no h2]
    unfold merS
    rw [if_pos hs, Int.min_self, Int.max_self]
  have ho : oth s q = q.take k ++ q.drop (k + 1) := by
    unfold oth
    conv => lhs; rw [hsp]
    rw [List.filter_append, List.filter_cons_of_neg (by rw [hs]; simp), List.filter_eq_self.2 fun x hx => by rw [h1 x hx]; rfl, List.filter_eq_self.2 fun x hx => by rw [h2 x hx]; rfl]
  have hp2 : (joinE q s).Perm q := by
    refine (insK_perm _ _).trans ?_
    rw [hm, ho]
    conv => rhs; rw [hsp]
    exact List.perm_middle.symm
  refine sorted_eq (r := fun x y => keyLt x y = true) keyLt_irrefl keyLt_trans hp2 ?_ hg.asc
  exact insK_asc (mer s q) (hg.asc.filter _) (oth_key hg hr)
theorem ren_same {l : List Wl} (h : chkE l = 0) {i k : Nat} (hi : i < l.length) (hk : k < (l.getD i zeroWl).sk.length) (hp : prevOk (l.getD i zeroWl).sk k = true) (hn : nextOk (l.getD i zeroWl).sk k = true) :
    renE l (l.getD i zeroWl).nm ((l.getD i zeroWl).sk.getD k zeroSk).p ((l.getD i zeroWl).sk.getD k zeroSk).a (((l.getD i zeroWl).sk.getD k zeroSk).b - ((l.getD i zeroWl).sk.getD k zeroSk).a) = (l, 0) := by
  have he := chk_each h i hi
  have hs := ((skE_iff _).1 he.2.2).1 ((l.getD i zeroWl).sk.getD k zeroSk) (by rw [getD_get _ zeroSk k hk]; exact List.getElem_mem _)
  have hj := alone_join he.2.2 hk hp hn
  generalize hS : (l.getD i zeroWl).sk.getD k zeroSk = s at *
  have hI : idxF (sameN (l.getD i zeroWl).nm) l = i := (last_step (names_one h _) hi).1 (by unfold sameN; simp)
  unfold renE
  rw [hI, if_neg (by omega), hs.1, if_neg (by simp)]
  have hw : IntKind.i64.wrap (s.a + (s.b - s.a)) = s.b := by rw [wrap_i64 (by omega) (by omega)]; omega
  have hb : badR s.a (s.b - s.a) = false := by
    unfold badR
    rw [hw]
    simp only [Bool.or_eq_false_iff, decide_eq_false_iff_not]
    omega
  rw [hb, if_neg (by simp), Int.toNat_natCast]
  have hJ : renJ l s.p s.a (s.b - s.a) i = (l.getD i zeroWl).sk := by
    unfold renJ
    rw [show (⟨s.p, s.a, s.a + (s.b - s.a)⟩ : Sk) = s by rw [show s.a + (s.b - s.a) = s.b by omega]]
    exact hj
  unfold renAt
  rw [hJ, if_neg (by omega)]
  have : l.set i ⟨(l.getD i zeroWl).nm, (l.getD i zeroWl).sk⟩ = l := by
    rw [show (⟨(l.getD i zeroWl).nm, (l.getD i zeroWl).sk⟩ : Wl) = l[i] by rw [getD_get l zeroWl i hi]]
    simp
  rw [this]
theorem ren_any {l : List Wl} (h : chkE l = 0) (nm p : ByteArray) (a hh : Int) : (renE l nm p a hh).1.length ≤ 40 ∧ ∀ i, i < (renE l nm p a hh).1.length → ((renE l nm p a hh).1.getD i zeroWl).sk.length ≤ 41 :=
  renE_len (by have := (chk_good h).1; omega) (fun i hi => by have := (chk_good h).2.1 i hi; omega)
end Go.Proofs
end
section
set_option linter.unusedVariables false
set_option linter.unusedSimpArgs false
namespace Go.Proofs
open Go Go.Ab Go.ChangeShapes Go.WideShapes Go.ChangeAt Go.RowKit
set_option maxRecDepth 100000
set_option linter.unusedSimpArgs false
set_option linter.unusedVariables false
section
variable {H : Type} {enc : TypeId × Value → H} {w : World} {spare : Nat → Bool} {held : Bool} {r : Reach} {b0 : Nat} {v : Value} {d : DataW H} {p : List MemPlace}
theorem arg_agg {P : Program} {t : TypeId} {cs : Array Value} (n : Nat) (ht : readsTy P n t = true)
    (hd : DataW.Trod enc P w 0 spare held t (.agg cs) d p) : ∃ qs, Shape P n t qs ∧ PureV (fun g => g < w.heap.size ∧ True) w (.agg qs) (.agg cs) := by
  obtain ⟨fuel, h⟩ := hd
  obtain ⟨_, qs, h1, h2, h3⟩ := read_ty n t ht h
  refine ⟨qs, h1, ?_⟩
  have e : cs = cs.toList.toArray := by simp
  have h2 : qs.length = cs.toList.length := h2
  rw [e]
  refine .agg _ cs.toList h2 (fun u hu => ?_) (fun j hj => ?_)
  · obtain ⟨j, hj, rfl⟩ := List.getElem_of_mem hu
    have := (h3 j (by omega)).2
    rw [Nat.zero_add] at this
    have e2 : cv (Value.agg cs).cells.toList j = cs.toList[j] := by show cv cs.toList j = _; unfold cv; rw [List.getD_eq_getElem?_getD, List.getElem?_eq_getElem hj]; rfl
    rw [e2] at this
    exact this
  · have := (h3 j hj).1
    rw [Nat.zero_add] at this
    exact this.mono fun g hg => ⟨⟨hg, trivial⟩, rfl⟩
theorem arg_x3 (hval : Value.okWide Try.prog w r b0 43 v) (hd : DataW.Trod enc Try.prog w 0 spare held 43 v d p) :
    ∃ x : Int × Int × Int, PureV (fun g => g < w.heap.size ∧ True) w (.agg [.v (.int .i64 x.1), .v (.int .i64 x.2.1), .v (.int .i64 x.2.2)]) v := by
  unfold Value.okWide at hval
  rw [Try.underlying43] at hval
  obtain ⟨cs, rfl, _⟩ := hval
  obtain ⟨qs, h, hp⟩ := arg_agg 3 (by kernel_rfl) hd
  unfold Shape at h
  rw [Try.underlying43] at h
  obtain ⟨rs, rfl, hl, he⟩ := h
  have each : ∀ q ∈ rs, ∃ i : Int, q = [.v (.int .i64 i)] := by
    intro q hq
    have h1 := he q hq
    unfold Shape at h1
    simp only [Try.underlying3] at h1
    obtain ⟨i, h1, _⟩ := h1
    exact ⟨i, h1⟩
  match rs, hl with
  | [q0, q1, q2], _ =>
  obtain ⟨a0, rfl⟩ := each q0 (by simp)
  obtain ⟨a1, rfl⟩ := each q1 (by simp)
  obtain ⟨a2, rfl⟩ := each q2 (by simp)
  exact ⟨(a0, a1, a2), hp⟩
end
end Go.Proofs
end
section
set_option linter.unusedVariables false
set_option linter.unusedSimpArgs false
namespace Go.Proofs
open Go Go.Ab
set_option maxHeartbeats 8000000
set_option maxRecDepth 100000
set_option linter.unusedSimpArgs false
set_option linter.unusedVariables false
attribute [local irreducible] Awp aops aopsL Go.Ab.Pure PureOwn

def pS (l : List Wl) (i k : Nat) : AState := mkS [(0, .sl (wls l)), (9, .v (.int .i64 i)), (10, .v (.int .i64 k))] []
theorem parts_first (l : List Wl) (hc : chkE l = 0) (hl : l.length ≤ 40) (hsk : ∀ i, i < l.length → (l.getD i zeroWl).sk.length ≤ 40) (hgs : ∀ i, i < l.length → GoodS (l.getD i zeroWl).sk) (i k : Nat) (hi : i < l.length) (hk : k < (l.getD i zeroWl).sk.length) (h0 : ¬ 0 < k) {Q : AExit → Nat → AState → Prop}
    (hQ : ∀ nx S, Ghost 0 nx S 90 (pS l i (k + 1)) → Q .normal nx S) : Awp Try.prog 235 0 (Try.ac10.sub [1, 1, 1, 1, 1, 0, 1, 0, 0, 1, 0, 0, 1, 0, 0]) 90 (pS l i k) Q := by
  have hi' : (i : Int) < l.length := by omega
  have hat := wls_at l i hi
  have hz : ((l.getD i zeroWl).cells).length = 2 := rfl
  have c6 := samewl_ok l (by omega) (fun j hj => by have := hsk j hj; omega)
  have c5 := renew_ok l (l.getD i zeroWl).nm ((l.getD i zeroWl).sk.getD k zeroSk).p ((l.getD i zeroWl).sk.getD k zeroSk).a (((l.getD i zeroWl).sk.getD k zeroSk).b - ((l.getD i zeroWl).sk.getD k zeroSk).a) (by omega) hsk hgs
  have hsame := ren_same hc hi hk
  unfold prevOk nextOk at hsame
  have hr := (hgs i hi).rng ((l.getD i zeroWl).sk.getD k zeroSk) (by rw [getD_get _ zeroSk k hk]; exact List.getElem_mem _)
  have hkl := hsk i hi
  clear hsk hgs hc
  unfold pS at *
  obtain ⟨q, hq⟩ : ∃ q, l.getD i zeroWl = q := ⟨_, rfl⟩
  rw [hq] at hat hz c5 hsame hr hk hkl
  clear hq
  have hk' : (k : Int) < q.sk.length := by omega
  have hatk := sks_at q.sk k hk
  have hzk : ((q.sk.getD k zeroSk).cells).length = 3 := rfl
  have hka : IntKind.i64.wrap ((k : Int) + 1) = (k : Int) + 1 := wrap_i64 (by omega) (by omega)
  obtain ⟨s, hs⟩ : ∃ s, q.sk.getD k zeroSk = s := ⟨_, rfl⟩
  rw [hs] at hatk hzk c5 hsame hr
  clear hs
  have hwr : IntKind.i64.wrap (s.b - s.a) = s.b - s.a := wrap_i64 (by omega) (by omega)
  have hk0 : ((k : Int) == 0) = true := by rw [beq_iff_eq]; omega
  by_cases hn : k + 1 < q.sk.length
  · have hk1 : ((k : Int) + 1 == (q.sk.length : Int)) = false := by rw [beq_eq_false_iff_ne]; omega
    have hatn := sks_at q.sk (k + 1) hn
    have hzn : ((q.sk.getD (k + 1) zeroSk).cells).length = 3 := rfl
    have hnl : ((k : Int) + 1) < q.sk.length := by omega
    have hnt : ((k : Int) + 1).toNat = k + 1 := by omega
    have hn0 : (0 : Int) ≤ (k : Int) + 1 := by omega
    generalize q.sk.getD (k + 1) zeroSk = u at *
    cases e3 : (u.p.toList == s.p.toList)
    · have e9 := hsame (by simp [*]) (by simp [*])
      rw [e9] at c5
      clear hsame e9
      dsimp only at c5
      repeat' (first
    | (apply Awp.sreg; (case hn => (simp only [List.length_cons, List.length_nil, Nat.reduceAdd] <;> rfl)))
    | (apply Awp.sdraw; (case hn => (simp only [List.length_cons, List.length_nil, Nat.reduceAdd] <;> rfl)))
    | (refine st_nil ?_)
    | (apply st_a; (case hc => rfl); (case he => (simp only [go_sem, *] <;> rfl)); (case hu => (simp only [updL_nil, updL_cons] <;> rfl)); (case hp => first | trivial | omega))
    | (apply st_m; (case hc => rfl); (case hg => (simp only [go_sem, *] <;> rfl)); (case he => (intro hQz; (try simp only [wantB_t, wantB_f, Bool.and_eq_true, Bool.not_eq_true', Bool.not_true, Bool.not_false, and_true, true_and] at hQz); simp only [go_sem, *] <;> rfl)); (case hp => (intro hQz; (try simp only [wantB_t, wantB_f, Bool.and_eq_true, Bool.not_eq_true', Bool.or_eq_false_iff, decide_eq_true_eq, decide_eq_false_iff_not, beq_iff_eq, beq_eq_false_iff_ne, bne_iff_ne, bne_eq_false_iff_eq, Int.not_lt, Int.not_le, Int.ofNat_lt, Int.ofNat_le] at hQz); first | trivial)))
    | (apply st_mc; (case hop => rfl); (case hg => (simp only [go_sem, *] <;> rfl)); (case hc => (intro hQz; (try simp only [wantB_t, wantB_f, Bool.and_eq_true, Bool.not_eq_true', Bool.not_true, Bool.not_false, and_true, true_and] at hQz); simp only [go_sem, *] <;> rfl)); (case hl => (intro hQz; (try simp only [wantB_t, wantB_f, Bool.and_eq_true, Bool.not_eq_true', Bool.not_true, Bool.not_false, and_true, true_and] at hQz); simp only [go_sem, *] <;> rfl)); (case hn => (intro hQz; (try simp only [wantB_t, wantB_f, Bool.and_eq_true, Bool.not_eq_true', Bool.not_true, Bool.not_false, and_true, true_and] at hQz); simp only [go_sem, *] <;> rfl)); (case hp => intro hQz; first | exact c6 | (have hXz := c6; simp only [go_sem, *] at hXz; exact hXz)))
    | (apply Awp.reg; (case hn => (simp only [List.length_cons, List.length_nil, Nat.reduceAdd] <;> rfl)))
    | (refine Awp.skip ?_; try simp only [go_sem, *])
    | refine Awp.block ?_
    | (apply Awp.cond; (case hc => (simp only [go_sem, *] <;> rfl)); all_goals (intro hg; (try simp only [Bool.not_true, Bool.not_false, reduceCtorEq] at hg)))
    | refine Awp.seq ?_
    | (apply sl_a; (case hc => rfl); (case he => (simp only [go_sem, *] <;> rfl)); (case hu => (simp only [updL_nil, updL_cons] <;> rfl)); (case hl => (simp only [List.map_cons, List.map_nil] <;> rfl)); (case hp => first | trivial | omega))
    | (apply sl_gn; (case hv => (simp only [go_sem, *] <;> rfl)); (case hbw => rfl))
    | (apply sl_ga; (case hb => rfl); (case hv => (simp only [go_sem, *] <;> rfl)); (case he => (simp only [go_sem, *] <;> rfl)); (case hu => (simp only [updL_nil, updL_cons] <;> rfl)); (case hl => (simp only [List.map_cons, List.map_nil] <;> rfl)); (case hp => first | trivial | omega))
    | (apply sl_c; (case hc => (simp only [go_sem, *] <;> rfl)); (case hl => (simp only [go_sem, *] <;> rfl)); (case hn => (simp only [go_sem, *] <;> rfl)); (case hp => first | exact c5 | (have hXz := c5; simp only [go_sem, *] at hXz; exact hXz)); (case hd => first | exact .inl rfl | exact .inr (.v _) | exact .inr .any | exact .inr .nils); (case hm => first | decide | (simp; done)))
    | (refine sl_nil (And.intro (by first | exact drawOk_of (by decide +kernel) | (simp only [List.map_cons, List.map_nil]; exact drawOk_of (by decide +kernel)) | decide) ?_)))
      all_goals (refine hQ _ _ ?_; clear c5 c6 hQ; (apply Ghost.mk [] []; (case hdead => rfl); (case hinj => rfl); (case hV => (simp only [go_sem, *]) <;> (repeat' (first | exact View.int (by first | rfl | omega | (simp; done) | (rw [wrap_i64] <;> (try simp only [Int.natCast_add]) <;> omega) | (simp [*]; done))))); (case hB => (simp only [go_sem, *]) <;> (repeat' (first | skip; done)))))
    cases e4 : decide (s.b < u.a)
    · clear hsame
      generalize renE l q.nm s.p s.a (s.b - s.a) = R at *
      repeat' (first
    | (apply Awp.sreg; (case hn => (simp only [List.length_cons, List.length_nil, Nat.reduceAdd] <;> rfl)))
    | (apply Awp.sdraw; (case hn => (simp only [List.length_cons, List.length_nil, Nat.reduceAdd] <;> rfl)))
    | (refine st_nil ?_)
    | (apply st_a; (case hc => rfl); (case he => (simp only [go_sem, *] <;> rfl)); (case hu => (simp only [updL_nil, updL_cons] <;> rfl)); (case hp => first | trivial | omega))
    | (apply st_m; (case hc => rfl); (case hg => (simp only [go_sem, *] <;> rfl)); (case he => (intro hQz; (try simp only [wantB_t, wantB_f, Bool.and_eq_true, Bool.not_eq_true', Bool.not_true, Bool.not_false, and_true, true_and] at hQz); simp only [go_sem, *] <;> rfl)); (case hp => (intro hQz; (try simp only [wantB_t, wantB_f, Bool.and_eq_true, Bool.not_eq_true', Bool.or_eq_false_iff, decide_eq_true_eq, decide_eq_false_iff_not, beq_iff_eq, beq_eq_false_iff_ne, bne_iff_ne, bne_eq_false_iff_eq, Int.not_lt, Int.not_le, Int.ofNat_lt, Int.ofNat_le] at hQz); first | trivial)))
    | (apply st_gu; (case hv => (simp only [go_sem, *] <;> rfl)))
    | (apply Awp.reg; (case hn => (simp only [List.length_cons, List.length_nil, Nat.reduceAdd] <;> rfl)))
    | (refine Awp.skip ?_; try simp only [go_sem, *])
    | refine Awp.block ?_
    | (apply Awp.cond; (case hc => (simp only [go_sem, *] <;> rfl)); all_goals (intro hg; (try simp only [Bool.not_true, Bool.not_false, reduceCtorEq] at hg)))
    | refine Awp.seq ?_
    | (apply sl_a; (case hc => rfl); (case he => (simp only [go_sem, *] <;> rfl)); (case hu => (simp only [updL_nil, updL_cons] <;> rfl)); (case hl => (simp only [List.map_cons, List.map_nil] <;> rfl)); (case hp => first | trivial | omega))
    | (apply sl_gn; (case hv => (simp only [go_sem, *] <;> rfl)); (case hbw => rfl))
    | (apply sl_ga; (case hb => rfl); (case hv => (simp only [go_sem, *] <;> rfl)); (case he => (simp only [go_sem, *] <;> rfl)); (case hu => (simp only [updL_nil, updL_cons] <;> rfl)); (case hl => (simp only [List.map_cons, List.map_nil] <;> rfl)); (case hp => first | trivial | omega))
    | (apply sl_c; (case hc => (simp only [go_sem, *] <;> rfl)); (case hl => (simp only [go_sem, *] <;> rfl)); (case hn => (simp only [go_sem, *] <;> rfl)); (case hp => first | exact c5 | (have hXz := c5; simp only [go_sem, *] at hXz; exact hXz)); (case hd => first | exact .inl rfl | exact .inr (.v _) | exact .inr .any | exact .inr .nils); (case hm => first | decide | (simp; done)))
    | (refine sl_nil (And.intro (by first | exact drawOk_of (by decide +kernel) | (simp only [List.map_cons, List.map_nil]; exact drawOk_of (by decide +kernel)) | decide) ?_)))
      all_goals (refine hQ _ _ ?_; clear c5 c6 hQ; (apply Ghost.mk [] []; (case hdead => rfl); (case hinj => rfl); (case hV => (simp only [go_sem, *]) <;> (repeat' (first | exact View.int (by first | rfl | omega | (simp; done) | (rw [wrap_i64] <;> (try simp only [Int.natCast_add]) <;> omega) | (simp [*]; done))))); (case hB => (simp only [go_sem, *]) <;> (repeat' (first | skip; done)))))
    · have e9 := hsame (by simp [*]) (by simp [*])
      rw [e9] at c5
      clear hsame e9
      dsimp only at c5
      repeat' (first
    | (apply Awp.sreg; (case hn => (simp only [List.length_cons, List.length_nil, Nat.reduceAdd] <;> rfl)))
    | (apply Awp.sdraw; (case hn => (simp only [List.length_cons, List.length_nil, Nat.reduceAdd] <;> rfl)))
    | (refine st_nil ?_)
    | (apply st_a; (case hc => rfl); (case he => (simp only [go_sem, *] <;> rfl)); (case hu => (simp only [updL_nil, updL_cons] <;> rfl)); (case hp => first | trivial | omega))
    | (apply st_m; (case hc => rfl); (case hg => (simp only [go_sem, *] <;> rfl)); (case he => (intro hQz; (try simp only [wantB_t, wantB_f, Bool.and_eq_true, Bool.not_eq_true', Bool.not_true, Bool.not_false, and_true, true_and] at hQz); simp only [go_sem, *] <;> rfl)); (case hp => (intro hQz; (try simp only [wantB_t, wantB_f, Bool.and_eq_true, Bool.not_eq_true', Bool.or_eq_false_iff, decide_eq_true_eq, decide_eq_false_iff_not, beq_iff_eq, beq_eq_false_iff_ne, bne_iff_ne, bne_eq_false_iff_eq, Int.not_lt, Int.not_le, Int.ofNat_lt, Int.ofNat_le] at hQz); first | trivial)))
    | (apply st_mc; (case hop => rfl); (case hg => (simp only [go_sem, *] <;> rfl)); (case hc => (intro hQz; (try simp only [wantB_t, wantB_f, Bool.and_eq_true, Bool.not_eq_true', Bool.not_true, Bool.not_false, and_true, true_and] at hQz); simp only [go_sem, *] <;> rfl)); (case hl => (intro hQz; (try simp only [wantB_t, wantB_f, Bool.and_eq_true, Bool.not_eq_true', Bool.not_true, Bool.not_false, and_true, true_and] at hQz); simp only [go_sem, *] <;> rfl)); (case hn => (intro hQz; (try simp only [wantB_t, wantB_f, Bool.and_eq_true, Bool.not_eq_true', Bool.not_true, Bool.not_false, and_true, true_and] at hQz); simp only [go_sem, *] <;> rfl)); (case hp => intro hQz; first | exact c6 | (have hXz := c6; simp only [go_sem, *] at hXz; exact hXz)))
    | (apply Awp.reg; (case hn => (simp only [List.length_cons, List.length_nil, Nat.reduceAdd] <;> rfl)))
    | (refine Awp.skip ?_; try simp only [go_sem, *])
    | refine Awp.block ?_
    | (apply Awp.cond; (case hc => (simp only [go_sem, *] <;> rfl)); all_goals (intro hg; (try simp only [Bool.not_true, Bool.not_false, reduceCtorEq] at hg)))
    | refine Awp.seq ?_
    | (apply sl_a; (case hc => rfl); (case he => (simp only [go_sem, *] <;> rfl)); (case hu => (simp only [updL_nil, updL_cons] <;> rfl)); (case hl => (simp only [List.map_cons, List.map_nil] <;> rfl)); (case hp => first | trivial | omega))
    | (apply sl_gn; (case hv => (simp only [go_sem, *] <;> rfl)); (case hbw => rfl))
    | (apply sl_ga; (case hb => rfl); (case hv => (simp only [go_sem, *] <;> rfl)); (case he => (simp only [go_sem, *] <;> rfl)); (case hu => (simp only [updL_nil, updL_cons] <;> rfl)); (case hl => (simp only [List.map_cons, List.map_nil] <;> rfl)); (case hp => first | trivial | omega))
    | (apply sl_c; (case hc => (simp only [go_sem, *] <;> rfl)); (case hl => (simp only [go_sem, *] <;> rfl)); (case hn => (simp only [go_sem, *] <;> rfl)); (case hp => first | exact c5 | (have hXz := c5; simp only [go_sem, *] at hXz; exact hXz)); (case hd => first | exact .inl rfl | exact .inr (.v _) | exact .inr .any | exact .inr .nils); (case hm => first | decide | (simp; done)))
    | (refine sl_nil (And.intro (by first | exact drawOk_of (by decide +kernel) | (simp only [List.map_cons, List.map_nil]; exact drawOk_of (by decide +kernel)) | decide) ?_)))
      all_goals (refine hQ _ _ ?_; clear c5 c6 hQ; (apply Ghost.mk [] []; (case hdead => rfl); (case hinj => rfl); (case hV => (simp only [go_sem, *]) <;> (repeat' (first | exact View.int (by first | rfl | omega | (simp; done) | (rw [wrap_i64] <;> (try simp only [Int.natCast_add]) <;> omega) | (simp [*]; done))))); (case hB => (simp only [go_sem, *]) <;> (repeat' (first | skip; done)))))
  · have hk1 : ((k : Int) + 1 == (q.sk.length : Int)) = true := by rw [beq_iff_eq]; omega
    have e9 := hsame (by simp [*]) (by simp [*])
    rw [e9] at c5
    clear hsame e9
    dsimp only at c5
    repeat' (first
    | (apply Awp.sreg; (case hn => (simp only [List.length_cons, List.length_nil, Nat.reduceAdd] <;> rfl)))
    | (apply Awp.sdraw; (case hn => (simp only [List.length_cons, List.length_nil, Nat.reduceAdd] <;> rfl)))
    | (refine st_nil ?_)
    | (apply st_a; (case hc => rfl); (case he => (simp only [go_sem, *] <;> rfl)); (case hu => (simp only [updL_nil, updL_cons] <;> rfl)); (case hp => first | trivial | omega))
    | (apply st_m; (case hc => rfl); (case hg => (simp only [go_sem, *] <;> rfl)); (case he => (intro hQz; (try simp only [wantB_t, wantB_f, Bool.and_eq_true, Bool.not_eq_true', Bool.not_true, Bool.not_false, and_true, true_and] at hQz); simp only [go_sem, *] <;> rfl)); (case hp => (intro hQz; (try simp only [wantB_t, wantB_f, Bool.and_eq_true, Bool.not_eq_true', Bool.or_eq_false_iff, decide_eq_true_eq, decide_eq_false_iff_not, beq_iff_eq, beq_eq_false_iff_ne, bne_iff_ne, bne_eq_false_iff_eq, Int.not_lt, Int.not_le, Int.ofNat_lt, Int.ofNat_le] at hQz); first | trivial)))
    | (apply st_mc; (case hop => rfl); (case hg => (simp only [go_sem, *] <;> rfl)); (case hc => (intro hQz; (try simp only [wantB_t, wantB_f, Bool.and_eq_true, Bool.not_eq_true', Bool.not_true, Bool.not_false, and_true, true_and] at hQz); simp only [go_sem, *] <;> rfl)); (case hl => (intro hQz; (try simp only [wantB_t, wantB_f, Bool.and_eq_true, Bool.not_eq_true', Bool.not_true, Bool.not_false, and_true, true_and] at hQz); simp only [go_sem, *] <;> rfl)); (case hn => (intro hQz; (try simp only [wantB_t, wantB_f, Bool.and_eq_true, Bool.not_eq_true', Bool.not_true, Bool.not_false, and_true, true_and] at hQz); simp only [go_sem, *] <;> rfl)); (case hp => intro hQz; first | exact c6 | (have hXz := c6; simp only [go_sem, *] at hXz; exact hXz)))
    | (apply Awp.reg; (case hn => (simp only [List.length_cons, List.length_nil, Nat.reduceAdd] <;> rfl)))
    | (refine Awp.skip ?_; try simp only [go_sem, *])
    | refine Awp.block ?_
    | (apply Awp.cond; (case hc => (simp only [go_sem, *] <;> rfl)); all_goals (intro hg; (try simp only [Bool.not_true, Bool.not_false, reduceCtorEq] at hg)))
    | refine Awp.seq ?_
    | (apply sl_a; (case hc => rfl); (case he => (simp only [go_sem, *] <;> rfl)); (case hu => (simp only [updL_nil, updL_cons] <;> rfl)); (case hl => (simp only [List.map_cons, List.map_nil] <;> rfl)); (case hp => first | trivial | omega))
    | (apply sl_gn; (case hv => (simp only [go_sem, *] <;> rfl)); (case hbw => rfl))
    | (apply sl_ga; (case hb => rfl); (case hv => (simp only [go_sem, *] <;> rfl)); (case he => (simp only [go_sem, *] <;> rfl)); (case hu => (simp only [updL_nil, updL_cons] <;> rfl)); (case hl => (simp only [List.map_cons, List.map_nil] <;> rfl)); (case hp => first | trivial | omega))
    | (apply sl_c; (case hc => (simp only [go_sem, *] <;> rfl)); (case hl => (simp only [go_sem, *] <;> rfl)); (case hn => (simp only [go_sem, *] <;> rfl)); (case hp => first | exact c5 | (have hXz := c5; simp only [go_sem, *] at hXz; exact hXz)); (case hd => first | exact .inl rfl | exact .inr (.v _) | exact .inr .any | exact .inr .nils); (case hm => first | decide | (simp; done)))
    | (refine sl_nil (And.intro (by first | exact drawOk_of (by decide +kernel) | (simp only [List.map_cons, List.map_nil]; exact drawOk_of (by decide +kernel)) | decide) ?_)))
    all_goals (refine hQ _ _ ?_; clear c5 c6 hQ; (apply Ghost.mk [] []; (case hdead => rfl); (case hinj => rfl); (case hV => (simp only [go_sem, *]) <;> (repeat' (first | exact View.int (by first | rfl | omega | (simp; done) | (rw [wrap_i64] <;> (try simp only [Int.natCast_add]) <;> omega) | (simp [*]; done))))); (case hB => (simp only [go_sem, *]) <;> (repeat' (first | skip; done)))))
theorem parts_next (l : List Wl) (hc : chkE l = 0) (hl : l.length ≤ 40) (hsk : ∀ i, i < l.length → (l.getD i zeroWl).sk.length ≤ 40) (hgs : ∀ i, i < l.length → GoodS (l.getD i zeroWl).sk) (i k : Nat) (hi : i < l.length) (hk : k < (l.getD i zeroWl).sk.length) (h0 : 0 < k) {Q : AExit → Nat → AState → Prop}
    (hQ : ∀ nx S, Ghost 0 nx S 90 (pS l i (k + 1)) → Q .normal nx S) : Awp Try.prog 235 0 (Try.ac10.sub [1, 1, 1, 1, 1, 0, 1, 0, 0, 1, 0, 0, 1, 0, 0]) 90 (pS l i k) Q := by
  have hi' : (i : Int) < l.length := by omega
  have hat := wls_at l i hi
  have hz : ((l.getD i zeroWl).cells).length = 2 := rfl
  have c6 := samewl_ok l (by omega) (fun j hj => by have := hsk j hj; omega)
  have c5 := renew_ok l (l.getD i zeroWl).nm ((l.getD i zeroWl).sk.getD k zeroSk).p ((l.getD i zeroWl).sk.getD k zeroSk).a (((l.getD i zeroWl).sk.getD k zeroSk).b - ((l.getD i zeroWl).sk.getD k zeroSk).a) (by omega) hsk hgs
  have hsame := ren_same hc hi hk
  unfold prevOk nextOk at hsame
  have hr := (hgs i hi).rng ((l.getD i zeroWl).sk.getD k zeroSk) (by rw [getD_get _ zeroSk k hk]; exact List.getElem_mem _)
  have hkl := hsk i hi
  clear hsk hgs hc
  unfold pS at *
  obtain ⟨q, hq⟩ : ∃ q, l.getD i zeroWl = q := ⟨_, rfl⟩
  rw [hq] at hat hz c5 hsame hr hk hkl
  clear hq
  have hk' : (k : Int) < q.sk.length := by omega
  have hatk := sks_at q.sk k hk
  have hzk : ((q.sk.getD k zeroSk).cells).length = 3 := rfl
  have hka : IntKind.i64.wrap ((k : Int) + 1) = (k : Int) + 1 := wrap_i64 (by omega) (by omega)
  obtain ⟨s, hs⟩ : ∃ s, q.sk.getD k zeroSk = s := ⟨_, rfl⟩
  rw [hs] at hatk hzk c5 hsame hr
  clear hs
  have hwr : IntKind.i64.wrap (s.b - s.a) = s.b - s.a := wrap_i64 (by omega) (by omega)
  have hk0 : ((k : Int) == 0) = false := by rw [beq_eq_false_iff_ne]; omega
  have hw := pred_wrap h0 (show k < 1000000 by omega)
  have hatp := sks_at q.sk (k - 1) (by omega)
  have hzp : ((q.sk.getD (k - 1) zeroSk).cells).length = 3 := rfl
  have hlp : ((k - 1 : Nat) : Int) < q.sk.length := by omega
  have hlp2 : k - 1 < q.sk.length := by omega
  have hp0 : (0 : Int) ≤ ((k - 1 : Nat) : Int) := by omega
  generalize q.sk.getD (k - 1) zeroSk = r at *
  cases e1 : (r.p.toList == s.p.toList)
  · by_cases hn : k + 1 < q.sk.length
    · have hk1 : ((k : Int) + 1 == (q.sk.length : Int)) = false := by rw [beq_eq_false_iff_ne]; omega
      have hatn := sks_at q.sk (k + 1) hn
      have hzn : ((q.sk.getD (k + 1) zeroSk).cells).length = 3 := rfl
      have hnl : ((k : Int) + 1) < q.sk.length := by omega
      have hnt : ((k : Int) + 1).toNat = k + 1 := by omega
      have hn0 : (0 : Int) ≤ (k : Int) + 1 := by omega
      generalize q.sk.getD (k + 1) zeroSk = u at *
      cases e3 : (u.p.toList == s.p.toList)
      · have e9 := hsame (by simp [*]) (by simp [*])
        rw [e9] at c5
        clear hsame e9
        dsimp only at c5
        repeat' (first
    | (apply Awp.sreg; (case hn => (simp only [List.length_cons, List.length_nil, Nat.reduceAdd] <;> rfl)))
    | (apply Awp.sdraw; (case hn => (simp only [List.length_cons, List.length_nil, Nat.reduceAdd] <;> rfl)))
    | (refine st_nil ?_)
    | (apply st_a; (case hc => rfl); (case he => (simp only [go_sem, *] <;> rfl)); (case hu => (simp only [updL_nil, updL_cons] <;> rfl)); (case hp => first | trivial | omega))
    | (apply st_m; (case hc => rfl); (case hg => (simp only [go_sem, *] <;> rfl)); (case he => (intro hQz; (try simp only [wantB_t, wantB_f, Bool.and_eq_true, Bool.not_eq_true', Bool.not_true, Bool.not_false, and_true, true_and] at hQz); simp only [go_sem, *] <;> rfl)); (case hp => (intro hQz; (try simp only [wantB_t, wantB_f, Bool.and_eq_true, Bool.not_eq_true', Bool.or_eq_false_iff, decide_eq_true_eq, decide_eq_false_iff_not, beq_iff_eq, beq_eq_false_iff_ne, bne_iff_ne, bne_eq_false_iff_eq, Int.not_lt, Int.not_le, Int.ofNat_lt, Int.ofNat_le] at hQz); first | trivial)))
    | (apply st_mc; (case hop => rfl); (case hg => (simp only [go_sem, *] <;> rfl)); (case hc => (intro hQz; (try simp only [wantB_t, wantB_f, Bool.and_eq_true, Bool.not_eq_true', Bool.not_true, Bool.not_false, and_true, true_and] at hQz); simp only [go_sem, *] <;> rfl)); (case hl => (intro hQz; (try simp only [wantB_t, wantB_f, Bool.and_eq_true, Bool.not_eq_true', Bool.not_true, Bool.not_false, and_true, true_and] at hQz); simp only [go_sem, *] <;> rfl)); (case hn => (intro hQz; (try simp only [wantB_t, wantB_f, Bool.and_eq_true, Bool.not_eq_true', Bool.not_true, Bool.not_false, and_true, true_and] at hQz); simp only [go_sem, *] <;> rfl)); (case hp => intro hQz; first | exact c6 | (have hXz := c6; simp only [go_sem, *] at hXz; exact hXz)))
    | (apply Awp.reg; (case hn => (simp only [List.length_cons, List.length_nil, Nat.reduceAdd] <;> rfl)))
    | (refine Awp.skip ?_; try simp only [go_sem, *])
    | refine Awp.block ?_
    | (apply Awp.cond; (case hc => (simp only [go_sem, *] <;> rfl)); all_goals (intro hg; (try simp only [Bool.not_true, Bool.not_false, reduceCtorEq] at hg)))
    | refine Awp.seq ?_
    | (apply sl_a; (case hc => rfl); (case he => (simp only [go_sem, *] <;> rfl)); (case hu => (simp only [updL_nil, updL_cons] <;> rfl)); (case hl => (simp only [List.map_cons, List.map_nil] <;> rfl)); (case hp => first | trivial | omega))
    | (apply sl_gn; (case hv => (simp only [go_sem, *] <;> rfl)); (case hbw => rfl))
    | (apply sl_ga; (case hb => rfl); (case hv => (simp only [go_sem, *] <;> rfl)); (case he => (simp only [go_sem, *] <;> rfl)); (case hu => (simp only [updL_nil, updL_cons] <;> rfl)); (case hl => (simp only [List.map_cons, List.map_nil] <;> rfl)); (case hp => first | trivial | omega))
    | (apply sl_c; (case hc => (simp only [go_sem, *] <;> rfl)); (case hl => (simp only [go_sem, *] <;> rfl)); (case hn => (simp only [go_sem, *] <;> rfl)); (case hp => first | exact c5 | (have hXz := c5; simp only [go_sem, *] at hXz; exact hXz)); (case hd => first | exact .inl rfl | exact .inr (.v _) | exact .inr .any | exact .inr .nils); (case hm => first | decide | (simp; done)))
    | (refine sl_nil (And.intro (by first | exact drawOk_of (by decide +kernel) | (simp only [List.map_cons, List.map_nil]; exact drawOk_of (by decide +kernel)) | decide) ?_)))
        all_goals (refine hQ _ _ ?_; clear c5 c6 hQ; (apply Ghost.mk [] []; (case hdead => rfl); (case hinj => rfl); (case hV => (simp only [go_sem, *]) <;> (repeat' (first | exact View.int (by first | rfl | omega | (simp; done) | (rw [wrap_i64] <;> (try simp only [Int.natCast_add]) <;> omega) | (simp [*]; done))))); (case hB => (simp only [go_sem, *]) <;> (repeat' (first | skip; done)))))
      cases e4 : decide (s.b < u.a)
      · clear hsame
        generalize renE l q.nm s.p s.a (s.b - s.a) = R at *
        repeat' (first
    | (apply Awp.sreg; (case hn => (simp only [List.length_cons, List.length_nil, Nat.reduceAdd] <;> rfl)))
    | (apply Awp.sdraw; (case hn => (simp only [List.length_cons, List.length_nil, Nat.reduceAdd] <;> rfl)))
    | (refine st_nil ?_)
    | (apply st_a; (case hc => rfl); (case he => (simp only [go_sem, *] <;> rfl)); (case hu => (simp only [updL_nil, updL_cons] <;> rfl)); (case hp => first | trivial | omega))
    | (apply st_m; (case hc => rfl); (case hg => (simp only [go_sem, *] <;> rfl)); (case he => (intro hQz; (try simp only [wantB_t, wantB_f, Bool.and_eq_true, Bool.not_eq_true', Bool.not_true, Bool.not_false, and_true, true_and] at hQz); simp only [go_sem, *] <;> rfl)); (case hp => (intro hQz; (try simp only [wantB_t, wantB_f, Bool.and_eq_true, Bool.not_eq_true', Bool.or_eq_false_iff, decide_eq_true_eq, decide_eq_false_iff_not, beq_iff_eq, beq_eq_false_iff_ne, bne_iff_ne, bne_eq_false_iff_eq, Int.not_lt, Int.not_le, Int.ofNat_lt, Int.ofNat_le] at hQz); first | trivial)))
    | (apply st_gu; (case hv => (simp only [go_sem, *] <;> rfl)))
    | (apply Awp.reg; (case hn => (simp only [List.length_cons, List.length_nil, Nat.reduceAdd] <;> rfl)))
    | (refine Awp.skip ?_; try simp only [go_sem, *])
    | refine Awp.block ?_
    | (apply Awp.cond; (case hc => (simp only [go_sem, *] <;> rfl)); all_goals (intro hg; (try simp only [Bool.not_true, Bool.not_false, reduceCtorEq] at hg)))
    | refine Awp.seq ?_
    | (apply sl_a; (case hc => rfl); (case he => (simp only [go_sem, *] <;> rfl)); (case hu => (simp only [updL_nil, updL_cons] <;> rfl)); (case hl => (simp only [List.map_cons, List.map_nil] <;> rfl)); (case hp => first | trivial | omega))
    | (apply sl_gn; (case hv => (simp only [go_sem, *] <;> rfl)); (case hbw => rfl))
    | (apply sl_ga; (case hb => rfl); (case hv => (simp only [go_sem, *] <;> rfl)); (case he => (simp only [go_sem, *] <;> rfl)); (case hu => (simp only [updL_nil, updL_cons] <;> rfl)); (case hl => (simp only [List.map_cons, List.map_nil] <;> rfl)); (case hp => first | trivial | omega))
    | (apply sl_c; (case hc => (simp only [go_sem, *] <;> rfl)); (case hl => (simp only [go_sem, *] <;> rfl)); (case hn => (simp only [go_sem, *] <;> rfl)); (case hp => first | exact c5 | (have hXz := c5; simp only [go_sem, *] at hXz; exact hXz)); (case hd => first | exact .inl rfl | exact .inr (.v _) | exact .inr .any | exact .inr .nils); (case hm => first | decide | (simp; done)))
    | (refine sl_nil (And.intro (by first | exact drawOk_of (by decide +kernel) | (simp only [List.map_cons, List.map_nil]; exact drawOk_of (by decide +kernel)) | decide) ?_)))
        all_goals (refine hQ _ _ ?_; clear c5 c6 hQ; (apply Ghost.mk [] []; (case hdead => rfl); (case hinj => rfl); (case hV => (simp only [go_sem, *]) <;> (repeat' (first | exact View.int (by first | rfl | omega | (simp; done) | (rw [wrap_i64] <;> (try simp only [Int.natCast_add]) <;> omega) | (simp [*]; done))))); (case hB => (simp only [go_sem, *]) <;> (repeat' (first | skip; done)))))
      · have e9 := hsame (by simp [*]) (by simp [*])
        rw [e9] at c5
        clear hsame e9
        dsimp only at c5
        repeat' (first
    | (apply Awp.sreg; (case hn => (simp only [List.length_cons, List.length_nil, Nat.reduceAdd] <;> rfl)))
    | (apply Awp.sdraw; (case hn => (simp only [List.length_cons, List.length_nil, Nat.reduceAdd] <;> rfl)))
    | (refine st_nil ?_)
    | (apply st_a; (case hc => rfl); (case he => (simp only [go_sem, *] <;> rfl)); (case hu => (simp only [updL_nil, updL_cons] <;> rfl)); (case hp => first | trivial | omega))
    | (apply st_m; (case hc => rfl); (case hg => (simp only [go_sem, *] <;> rfl)); (case he => (intro hQz; (try simp only [wantB_t, wantB_f, Bool.and_eq_true, Bool.not_eq_true', Bool.not_true, Bool.not_false, and_true, true_and] at hQz); simp only [go_sem, *] <;> rfl)); (case hp => (intro hQz; (try simp only [wantB_t, wantB_f, Bool.and_eq_true, Bool.not_eq_true', Bool.or_eq_false_iff, decide_eq_true_eq, decide_eq_false_iff_not, beq_iff_eq, beq_eq_false_iff_ne, bne_iff_ne, bne_eq_false_iff_eq, Int.not_lt, Int.not_le, Int.ofNat_lt, Int.ofNat_le] at hQz); first | trivial)))
    | (apply st_mc; (case hop => rfl); (case hg => (simp only [go_sem, *] <;> rfl)); (case hc => (intro hQz; (try simp only [wantB_t, wantB_f, Bool.and_eq_true, Bool.not_eq_true', Bool.not_true, Bool.not_false, and_true, true_and] at hQz); simp only [go_sem, *] <;> rfl)); (case hl => (intro hQz; (try simp only [wantB_t, wantB_f, Bool.and_eq_true, Bool.not_eq_true', Bool.not_true, Bool.not_false, and_true, true_and] at hQz); simp only [go_sem, *] <;> rfl)); (case hn => (intro hQz; (try simp only [wantB_t, wantB_f, Bool.and_eq_true, Bool.not_eq_true', Bool.not_true, Bool.not_false, and_true, true_and] at hQz); simp only [go_sem, *] <;> rfl)); (case hp => intro hQz; first | exact c6 | (have hXz := c6; simp only [go_sem, *] at hXz; exact hXz)))
    | (apply Awp.reg; (case hn => (simp only [List.length_cons, List.length_nil, Nat.reduceAdd] <;> rfl)))
    | (refine Awp.skip ?_; try simp only [go_sem, *])
    | refine Awp.block ?_
    | (apply Awp.cond; (case hc => (simp only [go_sem, *] <;> rfl)); all_goals (intro hg; (try simp only [Bool.not_true, Bool.not_false, reduceCtorEq] at hg)))
    | refine Awp.seq ?_
    | (apply sl_a; (case hc => rfl); (case he => (simp only [go_sem, *] <;> rfl)); (case hu => (simp only [updL_nil, updL_cons] <;> rfl)); (case hl => (simp only [List.map_cons, List.map_nil] <;> rfl)); (case hp => first | trivial | omega))
    | (apply sl_gn; (case hv => (simp only [go_sem, *] <;> rfl)); (case hbw => rfl))
    | (apply sl_ga; (case hb => rfl); (case hv => (simp only [go_sem, *] <;> rfl)); (case he => (simp only [go_sem, *] <;> rfl)); (case hu => (simp only [updL_nil, updL_cons] <;> rfl)); (case hl => (simp only [List.map_cons, List.map_nil] <;> rfl)); (case hp => first | trivial | omega))
    | (apply sl_c; (case hc => (simp only [go_sem, *] <;> rfl)); (case hl => (simp only [go_sem, *] <;> rfl)); (case hn => (simp only [go_sem, *] <;> rfl)); (case hp => first | exact c5 | (have hXz := c5; simp only [go_sem, *] at hXz; exact hXz)); (case hd => first | exact .inl rfl | exact .inr (.v _) | exact .inr .any | exact .inr .nils); (case hm => first | decide | (simp; done)))
    | (refine sl_nil (And.intro (by first | exact drawOk_of (by decide +kernel) | (simp only [List.map_cons, List.map_nil]; exact drawOk_of (by decide +kernel)) | decide) ?_)))
        all_goals (refine hQ _ _ ?_; clear c5 c6 hQ; (apply Ghost.mk [] []; (case hdead => rfl); (case hinj => rfl); (case hV => (simp only [go_sem, *]) <;> (repeat' (first | exact View.int (by first | rfl | omega | (simp; done) | (rw [wrap_i64] <;> (try simp only [Int.natCast_add]) <;> omega) | (simp [*]; done))))); (case hB => (simp only [go_sem, *]) <;> (repeat' (first | skip; done)))))
    · have hk1 : ((k : Int) + 1 == (q.sk.length : Int)) = true := by rw [beq_iff_eq]; omega
      have e9 := hsame (by simp [*]) (by simp [*])
      rw [e9] at c5
      clear hsame e9
      dsimp only at c5
      repeat' (first
    | (apply Awp.sreg; (case hn => (simp only [List.length_cons, List.length_nil, Nat.reduceAdd] <;> rfl)))
    | (apply Awp.sdraw; (case hn => (simp only [List.length_cons, List.length_nil, Nat.reduceAdd] <;> rfl)))
    | (refine st_nil ?_)
    | (apply st_a; (case hc => rfl); (case he => (simp only [go_sem, *] <;> rfl)); (case hu => (simp only [updL_nil, updL_cons] <;> rfl)); (case hp => first | trivial | omega))
    | (apply st_m; (case hc => rfl); (case hg => (simp only [go_sem, *] <;> rfl)); (case he => (intro hQz; (try simp only [wantB_t, wantB_f, Bool.and_eq_true, Bool.not_eq_true', Bool.not_true, Bool.not_false, and_true, true_and] at hQz); simp only [go_sem, *] <;> rfl)); (case hp => (intro hQz; (try simp only [wantB_t, wantB_f, Bool.and_eq_true, Bool.not_eq_true', Bool.or_eq_false_iff, decide_eq_true_eq, decide_eq_false_iff_not, beq_iff_eq, beq_eq_false_iff_ne, bne_iff_ne, bne_eq_false_iff_eq, Int.not_lt, Int.not_le, Int.ofNat_lt, Int.ofNat_le] at hQz); first | trivial)))
    | (apply st_mc; (case hop => rfl); (case hg => (simp only [go_sem, *] <;> rfl)); (case hc => (intro hQz; (try simp only [wantB_t, wantB_f, Bool.and_eq_true, Bool.not_eq_true', Bool.not_true, Bool.not_false, and_true, true_and] at hQz); simp only [go_sem, *] <;> rfl)); (case hl => (intro hQz; (try simp only [wantB_t, wantB_f, Bool.and_eq_true, Bool.not_eq_true', Bool.not_true, Bool.not_false, and_true, true_and] at hQz); simp only [go_sem, *] <;> rfl)); (case hn => (intro hQz; (try simp only [wantB_t, wantB_f, Bool.and_eq_true, Bool.not_eq_true', Bool.not_true, Bool.not_false, and_true, true_and] at hQz); simp only [go_sem, *] <;> rfl)); (case hp => intro hQz; first | exact c6 | (have hXz := c6; simp only [go_sem, *] at hXz; exact hXz)))
    | (apply Awp.reg; (case hn => (simp only [List.length_cons, List.length_nil, Nat.reduceAdd] <;> rfl)))
    | (refine Awp.skip ?_; try simp only [go_sem, *])
    | refine Awp.block ?_
    | (apply Awp.cond; (case hc => (simp only [go_sem, *] <;> rfl)); all_goals (intro hg; (try simp only [Bool.not_true, Bool.not_false, reduceCtorEq] at hg)))
    | refine Awp.seq ?_
    | (apply sl_a; (case hc => rfl); (case he => (simp only [go_sem, *] <;> rfl)); (case hu => (simp only [updL_nil, updL_cons] <;> rfl)); (case hl => (simp only [List.map_cons, List.map_nil] <;> rfl)); (case hp => first | trivial | omega))
    | (apply sl_gn; (case hv => (simp only [go_sem, *] <;> rfl)); (case hbw => rfl))
    | (apply sl_ga; (case hb => rfl); (case hv => (simp only [go_sem, *] <;> rfl)); (case he => (simp only [go_sem, *] <;> rfl)); (case hu => (simp only [updL_nil, updL_cons] <;> rfl)); (case hl => (simp only [List.map_cons, List.map_nil] <;> rfl)); (case hp => first | trivial | omega))
    | (apply sl_c; (case hc => (simp only [go_sem, *] <;> rfl)); (case hl => (simp only [go_sem, *] <;> rfl)); (case hn => (simp only [go_sem, *] <;> rfl)); (case hp => first | exact c5 | (have hXz := c5; simp only [go_sem, *] at hXz; exact hXz)); (case hd => first | exact .inl rfl | exact .inr (.v _) | exact .inr .any | exact .inr .nils); (case hm => first | decide | (simp; done)))
    | (refine sl_nil (And.intro (by first | exact drawOk_of (by decide +kernel) | (simp only [List.map_cons, List.map_nil]; exact drawOk_of (by decide +kernel)) | decide) ?_)))
      all_goals (refine hQ _ _ ?_; clear c5 c6 hQ; (apply Ghost.mk [] []; (case hdead => rfl); (case hinj => rfl); (case hV => (simp only [go_sem, *]) <;> (repeat' (first | exact View.int (by first | rfl | omega | (simp; done) | (rw [wrap_i64] <;> (try simp only [Int.natCast_add]) <;> omega) | (simp [*]; done))))); (case hB => (simp only [go_sem, *]) <;> (repeat' (first | skip; done)))))
  cases e2 : decide (r.b < s.a)
  · clear hsame
    generalize renE l q.nm s.p s.a (s.b - s.a) = R at *
    repeat' (first
    | (apply Awp.sreg; (case hn => (simp only [List.length_cons, List.length_nil, Nat.reduceAdd] <;> rfl)))
    | (apply Awp.sdraw; (case hn => (simp only [List.length_cons, List.length_nil, Nat.reduceAdd] <;> rfl)))
    | (refine st_nil ?_)
    | (apply st_a; (case hc => rfl); (case he => (simp only [go_sem, *] <;> rfl)); (case hu => (simp only [updL_nil, updL_cons] <;> rfl)); (case hp => first | trivial | omega))
    | (apply st_m; (case hc => rfl); (case hg => (simp only [go_sem, *] <;> rfl)); (case he => (intro hQz; (try simp only [wantB_t, wantB_f, Bool.and_eq_true, Bool.not_eq_true', Bool.not_true, Bool.not_false, and_true, true_and] at hQz); simp only [go_sem, *] <;> rfl)); (case hp => (intro hQz; (try simp only [wantB_t, wantB_f, Bool.and_eq_true, Bool.not_eq_true', Bool.or_eq_false_iff, decide_eq_true_eq, decide_eq_false_iff_not, beq_iff_eq, beq_eq_false_iff_ne, bne_iff_ne, bne_eq_false_iff_eq, Int.not_lt, Int.not_le, Int.ofNat_lt, Int.ofNat_le] at hQz); first | trivial)))
    | (apply st_gu; (case hv => (simp only [go_sem, *] <;> rfl)))
    | (apply Awp.reg; (case hn => (simp only [List.length_cons, List.length_nil, Nat.reduceAdd] <;> rfl)))
    | (refine Awp.skip ?_; try simp only [go_sem, *])
    | refine Awp.block ?_
    | (apply Awp.cond; (case hc => (simp only [go_sem, *] <;> rfl)); all_goals (intro hg; (try simp only [Bool.not_true, Bool.not_false, reduceCtorEq] at hg)))
    | refine Awp.seq ?_
    | (apply sl_a; (case hc => rfl); (case he => (simp only [go_sem, *] <;> rfl)); (case hu => (simp only [updL_nil, updL_cons] <;> rfl)); (case hl => (simp only [List.map_cons, List.map_nil] <;> rfl)); (case hp => first | trivial | omega))
    | (apply sl_gu; (case hv => (simp only [go_sem, *] <;> rfl)))
    | (apply sl_gn; (case hv => (simp only [go_sem, *] <;> rfl)); (case hbw => rfl))
    | (apply sl_ga; (case hb => rfl); (case hv => (simp only [go_sem, *] <;> rfl)); (case he => (simp only [go_sem, *] <;> rfl)); (case hu => (simp only [updL_nil, updL_cons] <;> rfl)); (case hl => (simp only [List.map_cons, List.map_nil] <;> rfl)); (case hp => first | trivial | omega))
    | (apply sl_c; (case hc => (simp only [go_sem, *] <;> rfl)); (case hl => (simp only [go_sem, *] <;> rfl)); (case hn => (simp only [go_sem, *] <;> rfl)); (case hp => first | exact c5 | (have hXz := c5; simp only [go_sem, *] at hXz; exact hXz)); (case hd => first | exact .inl rfl | exact .inr (.v _) | exact .inr .any | exact .inr .nils); (case hm => first | decide | (simp; done)))
    | (refine sl_nil (And.intro (by first | exact drawOk_of (by decide +kernel) | (simp only [List.map_cons, List.map_nil]; exact drawOk_of (by decide +kernel)) | decide) ?_)))
    all_goals (refine hQ _ _ ?_; clear c5 c6 hQ; (apply Ghost.mk [] []; (case hdead => rfl); (case hinj => rfl); (case hV => (simp only [go_sem, *]) <;> (repeat' (first | exact View.int (by first | rfl | omega | (simp; done) | (rw [wrap_i64] <;> (try simp only [Int.natCast_add]) <;> omega) | (simp [*]; done))))); (case hB => (simp only [go_sem, *]) <;> (repeat' (first | skip; done)))))
  · by_cases hn : k + 1 < q.sk.length
    · have hk1 : ((k : Int) + 1 == (q.sk.length : Int)) = false := by rw [beq_eq_false_iff_ne]; omega
      have hatn := sks_at q.sk (k + 1) hn
      have hzn : ((q.sk.getD (k + 1) zeroSk).cells).length = 3 := rfl
      have hnl : ((k : Int) + 1) < q.sk.length := by omega
      have hnt : ((k : Int) + 1).toNat = k + 1 := by omega
      have hn0 : (0 : Int) ≤ (k : Int) + 1 := by omega
      generalize q.sk.getD (k + 1) zeroSk = u at *
      cases e3 : (u.p.toList == s.p.toList)
      · have e9 := hsame (by simp [*]) (by simp [*])
        rw [e9] at c5
        clear hsame e9
        dsimp only at c5
        repeat' (first
    | (apply Awp.sreg; (case hn => (simp only [List.length_cons, List.length_nil, Nat.reduceAdd] <;> rfl)))
    | (apply Awp.sdraw; (case hn => (simp only [List.length_cons, List.length_nil, Nat.reduceAdd] <;> rfl)))
    | (refine st_nil ?_)
    | (apply st_a; (case hc => rfl); (case he => (simp only [go_sem, *] <;> rfl)); (case hu => (simp only [updL_nil, updL_cons] <;> rfl)); (case hp => first | trivial | omega))
    | (apply st_m; (case hc => rfl); (case hg => (simp only [go_sem, *] <;> rfl)); (case he => (intro hQz; (try simp only [wantB_t, wantB_f, Bool.and_eq_true, Bool.not_eq_true', Bool.not_true, Bool.not_false, and_true, true_and] at hQz); simp only [go_sem, *] <;> rfl)); (case hp => (intro hQz; (try simp only [wantB_t, wantB_f, Bool.and_eq_true, Bool.not_eq_true', Bool.or_eq_false_iff, decide_eq_true_eq, decide_eq_false_iff_not, beq_iff_eq, beq_eq_false_iff_ne, bne_iff_ne, bne_eq_false_iff_eq, Int.not_lt, Int.not_le, Int.ofNat_lt, Int.ofNat_le] at hQz); first | trivial)))
    | (apply st_mc; (case hop => rfl); (case hg => (simp only [go_sem, *] <;> rfl)); (case hc => (intro hQz; (try simp only [wantB_t, wantB_f, Bool.and_eq_true, Bool.not_eq_true', Bool.not_true, Bool.not_false, and_true, true_and] at hQz); simp only [go_sem, *] <;> rfl)); (case hl => (intro hQz; (try simp only [wantB_t, wantB_f, Bool.and_eq_true, Bool.not_eq_true', Bool.not_true, Bool.not_false, and_true, true_and] at hQz); simp only [go_sem, *] <;> rfl)); (case hn => (intro hQz; (try simp only [wantB_t, wantB_f, Bool.and_eq_true, Bool.not_eq_true', Bool.not_true, Bool.not_false, and_true, true_and] at hQz); simp only [go_sem, *] <;> rfl)); (case hp => intro hQz; first | exact c6 | (have hXz := c6; simp only [go_sem, *] at hXz; exact hXz)))
    | (apply Awp.reg; (case hn => (simp only [List.length_cons, List.length_nil, Nat.reduceAdd] <;> rfl)))
    | (refine Awp.skip ?_; try simp only [go_sem, *])
    | refine Awp.block ?_
    | (apply Awp.cond; (case hc => (simp only [go_sem, *] <;> rfl)); all_goals (intro hg; (try simp only [Bool.not_true, Bool.not_false, reduceCtorEq] at hg)))
    | refine Awp.seq ?_
    | (apply sl_a; (case hc => rfl); (case he => (simp only [go_sem, *] <;> rfl)); (case hu => (simp only [updL_nil, updL_cons] <;> rfl)); (case hl => (simp only [List.map_cons, List.map_nil] <;> rfl)); (case hp => first | trivial | omega))
    | (apply sl_gn; (case hv => (simp only [go_sem, *] <;> rfl)); (case hbw => rfl))
    | (apply sl_ga; (case hb => rfl); (case hv => (simp only [go_sem, *] <;> rfl)); (case he => (simp only [go_sem, *] <;> rfl)); (case hu => (simp only [updL_nil, updL_cons] <;> rfl)); (case hl => (simp only [List.map_cons, List.map_nil] <;> rfl)); (case hp => first | trivial | omega))
    | (apply sl_c; (case hc => (simp only [go_sem, *] <;> rfl)); (case hl => (simp only [go_sem, *] <;> rfl)); (case hn => (simp only [go_sem, *] <;> rfl)); (case hp => first | exact c5 | (have hXz := c5; simp only [go_sem, *] at hXz; exact hXz)); (case hd => first | exact .inl rfl | exact .inr (.v _) | exact .inr .any | exact .inr .nils); (case hm => first | decide | (simp; done)))
    | (refine sl_nil (And.intro (by first | exact drawOk_of (by decide +kernel) | (simp only [List.map_cons, List.map_nil]; exact drawOk_of (by decide +kernel)) | decide) ?_)))
        all_goals (refine hQ _ _ ?_; clear c5 c6 hQ; (apply Ghost.mk [] []; (case hdead => rfl); (case hinj => rfl); (case hV => (simp only [go_sem, *]) <;> (repeat' (first | exact View.int (by first | rfl | omega | (simp; done) | (rw [wrap_i64] <;> (try simp only [Int.natCast_add]) <;> omega) | (simp [*]; done))))); (case hB => (simp only [go_sem, *]) <;> (repeat' (first | skip; done)))))
      cases e4 : decide (s.b < u.a)
      · clear hsame
        generalize renE l q.nm s.p s.a (s.b - s.a) = R at *
        repeat' (first
    | (apply Awp.sreg; (case hn => (simp only [List.length_cons, List.length_nil, Nat.reduceAdd] <;> rfl)))
    | (apply Awp.sdraw; (case hn => (simp only [List.length_cons, List.length_nil, Nat.reduceAdd] <;> rfl)))
    | (refine st_nil ?_)
    | (apply st_a; (case hc => rfl); (case he => (simp only [go_sem, *] <;> rfl)); (case hu => (simp only [updL_nil, updL_cons] <;> rfl)); (case hp => first | trivial | omega))
    | (apply st_m; (case hc => rfl); (case hg => (simp only [go_sem, *] <;> rfl)); (case he => (intro hQz; (try simp only [wantB_t, wantB_f, Bool.and_eq_true, Bool.not_eq_true', Bool.not_true, Bool.not_false, and_true, true_and] at hQz); simp only [go_sem, *] <;> rfl)); (case hp => (intro hQz; (try simp only [wantB_t, wantB_f, Bool.and_eq_true, Bool.not_eq_true', Bool.or_eq_false_iff, decide_eq_true_eq, decide_eq_false_iff_not, beq_iff_eq, beq_eq_false_iff_ne, bne_iff_ne, bne_eq_false_iff_eq, Int.not_lt, Int.not_le, Int.ofNat_lt, Int.ofNat_le] at hQz); first | trivial)))
    | (apply st_gu; (case hv => (simp only [go_sem, *] <;> rfl)))
    | (apply Awp.reg; (case hn => (simp only [List.length_cons, List.length_nil, Nat.reduceAdd] <;> rfl)))
    | (refine Awp.skip ?_; try simp only [go_sem, *])
    | refine Awp.block ?_
    | (apply Awp.cond; (case hc => (simp only [go_sem, *] <;> rfl)); all_goals (intro hg; (try simp only [Bool.not_true, Bool.not_false, reduceCtorEq] at hg)))
    | refine Awp.seq ?_
    | (apply sl_a; (case hc => rfl); (case he => (simp only [go_sem, *] <;> rfl)); (case hu => (simp only [updL_nil, updL_cons] <;> rfl)); (case hl => (simp only [List.map_cons, List.map_nil] <;> rfl)); (case hp => first | trivial | omega))
    | (apply sl_ga; (case hb => rfl); (case hv => (simp only [go_sem, *] <;> rfl)); (case he => (simp only [go_sem, *] <;> rfl)); (case hu => (simp only [updL_nil, updL_cons] <;> rfl)); (case hl => (simp only [List.map_cons, List.map_nil] <;> rfl)); (case hp => first | trivial | omega))
    | (apply sl_c; (case hc => (simp only [go_sem, *] <;> rfl)); (case hl => (simp only [go_sem, *] <;> rfl)); (case hn => (simp only [go_sem, *] <;> rfl)); (case hp => first | exact c5 | (have hXz := c5; simp only [go_sem, *] at hXz; exact hXz)); (case hd => first | exact .inl rfl | exact .inr (.v _) | exact .inr .any | exact .inr .nils); (case hm => first | decide | (simp; done)))
    | (refine sl_nil (And.intro (by first | exact drawOk_of (by decide +kernel) | (simp only [List.map_cons, List.map_nil]; exact drawOk_of (by decide +kernel)) | decide) ?_)))
        all_goals (refine hQ _ _ ?_; clear c5 c6 hQ; (apply Ghost.mk [] []; (case hdead => rfl); (case hinj => rfl); (case hV => (simp only [go_sem, *]) <;> (repeat' (first | exact View.int (by first | rfl | omega | (simp; done) | (rw [wrap_i64] <;> (try simp only [Int.natCast_add]) <;> omega) | (simp [*]; done))))); (case hB => (simp only [go_sem, *]) <;> (repeat' (first | skip; done)))))
      · have e9 := hsame (by simp [*]) (by simp [*])
        rw [e9] at c5
        clear hsame e9
        dsimp only at c5
        repeat' (first
    | (apply Awp.sreg; (case hn => (simp only [List.length_cons, List.length_nil, Nat.reduceAdd] <;> rfl)))
    | (apply Awp.sdraw; (case hn => (simp only [List.length_cons, List.length_nil, Nat.reduceAdd] <;> rfl)))
    | (refine st_nil ?_)
    | (apply st_a; (case hc => rfl); (case he => (simp only [go_sem, *] <;> rfl)); (case hu => (simp only [updL_nil, updL_cons] <;> rfl)); (case hp => first | trivial | omega))
    | (apply st_m; (case hc => rfl); (case hg => (simp only [go_sem, *] <;> rfl)); (case he => (intro hQz; (try simp only [wantB_t, wantB_f, Bool.and_eq_true, Bool.not_eq_true', Bool.not_true, Bool.not_false, and_true, true_and] at hQz); simp only [go_sem, *] <;> rfl)); (case hp => (intro hQz; (try simp only [wantB_t, wantB_f, Bool.and_eq_true, Bool.not_eq_true', Bool.or_eq_false_iff, decide_eq_true_eq, decide_eq_false_iff_not, beq_iff_eq, beq_eq_false_iff_ne, bne_iff_ne, bne_eq_false_iff_eq, Int.not_lt, Int.not_le, Int.ofNat_lt, Int.ofNat_le] at hQz); first | trivial)))
    | (apply st_mc; (case hop => rfl); (case hg => (simp only [go_sem, *] <;> rfl)); (case hc => (intro hQz; (try simp only [wantB_t, wantB_f, Bool.and_eq_true, Bool.not_eq_true', Bool.not_true, Bool.not_false, and_true, true_and] at hQz); simp only [go_sem, *] <;> rfl)); (case hl => (intro hQz; (try simp only [wantB_t, wantB_f, Bool.and_eq_true, Bool.not_eq_true', Bool.not_true, Bool.not_false, and_true, true_and] at hQz); simp only [go_sem, *] <;> rfl)); (case hn => (intro hQz; (try simp only [wantB_t, wantB_f, Bool.and_eq_true, Bool.not_eq_true', Bool.not_true, Bool.not_false, and_true, true_and] at hQz); simp only [go_sem, *] <;> rfl)); (case hp => intro hQz; first | exact c6 | (have hXz := c6; simp only [go_sem, *] at hXz; exact hXz)))
    | (apply Awp.reg; (case hn => (simp only [List.length_cons, List.length_nil, Nat.reduceAdd] <;> rfl)))
    | (refine Awp.skip ?_; try simp only [go_sem, *])
    | refine Awp.block ?_
    | (apply Awp.cond; (case hc => (simp only [go_sem, *] <;> rfl)); all_goals (intro hg; (try simp only [Bool.not_true, Bool.not_false, reduceCtorEq] at hg)))
    | refine Awp.seq ?_
    | (apply sl_a; (case hc => rfl); (case he => (simp only [go_sem, *] <;> rfl)); (case hu => (simp only [updL_nil, updL_cons] <;> rfl)); (case hl => (simp only [List.map_cons, List.map_nil] <;> rfl)); (case hp => first | trivial | omega))
    | (apply sl_ga; (case hb => rfl); (case hv => (simp only [go_sem, *] <;> rfl)); (case he => (simp only [go_sem, *] <;> rfl)); (case hu => (simp only [updL_nil, updL_cons] <;> rfl)); (case hl => (simp only [List.map_cons, List.map_nil] <;> rfl)); (case hp => first | trivial | omega))
    | (apply sl_c; (case hc => (simp only [go_sem, *] <;> rfl)); (case hl => (simp only [go_sem, *] <;> rfl)); (case hn => (simp only [go_sem, *] <;> rfl)); (case hp => first | exact c5 | (have hXz := c5; simp only [go_sem, *] at hXz; exact hXz)); (case hd => first | exact .inl rfl | exact .inr (.v _) | exact .inr .any | exact .inr .nils); (case hm => first | decide | (simp; done)))
    | (refine sl_nil (And.intro (by first | exact drawOk_of (by decide +kernel) | (simp only [List.map_cons, List.map_nil]; exact drawOk_of (by decide +kernel)) | decide) ?_)))
        all_goals (refine hQ _ _ ?_; clear c5 c6 hQ; (apply Ghost.mk [] []; (case hdead => rfl); (case hinj => rfl); (case hV => (simp only [go_sem, *]) <;> (repeat' (first | exact View.int (by first | rfl | omega | (simp; done) | (rw [wrap_i64] <;> (try simp only [Int.natCast_add]) <;> omega) | (simp [*]; done))))); (case hB => (simp only [go_sem, *]) <;> (repeat' (first | skip; done)))))
    · have hk1 : ((k : Int) + 1 == (q.sk.length : Int)) = true := by rw [beq_iff_eq]; omega
      have e9 := hsame (by simp [*]) (by simp [*])
      rw [e9] at c5
      clear hsame e9
      dsimp only at c5
      repeat' (first
    | (apply Awp.sreg; (case hn => (simp only [List.length_cons, List.length_nil, Nat.reduceAdd] <;> rfl)))
    | (apply Awp.sdraw; (case hn => (simp only [List.length_cons, List.length_nil, Nat.reduceAdd] <;> rfl)))
    | (refine st_nil ?_)
    | (apply st_a; (case hc => rfl); (case he => (simp only [go_sem, *] <;> rfl)); (case hu => (simp only [updL_nil, updL_cons] <;> rfl)); (case hp => first | trivial | omega))
    | (apply st_m; (case hc => rfl); (case hg => (simp only [go_sem, *] <;> rfl)); (case he => (intro hQz; (try simp only [wantB_t, wantB_f, Bool.and_eq_true, Bool.not_eq_true', Bool.not_true, Bool.not_false, and_true, true_and] at hQz); simp only [go_sem, *] <;> rfl)); (case hp => (intro hQz; (try simp only [wantB_t, wantB_f, Bool.and_eq_true, Bool.not_eq_true', Bool.or_eq_false_iff, decide_eq_true_eq, decide_eq_false_iff_not, beq_iff_eq, beq_eq_false_iff_ne, bne_iff_ne, bne_eq_false_iff_eq, Int.not_lt, Int.not_le, Int.ofNat_lt, Int.ofNat_le] at hQz); first | trivial)))
    | (apply st_mc; (case hop => rfl); (case hg => (simp only [go_sem, *] <;> rfl)); (case hc => (intro hQz; (try simp only [wantB_t, wantB_f, Bool.and_eq_true, Bool.not_eq_true', Bool.not_true, Bool.not_false, and_true, true_and] at hQz); simp only [go_sem, *] <;> rfl)); (case hl => (intro hQz; (try simp only [wantB_t, wantB_f, Bool.and_eq_true, Bool.not_eq_true', Bool.not_true, Bool.not_false, and_true, true_and] at hQz); simp only [go_sem, *] <;> rfl)); (case hn => (intro hQz; (try simp only [wantB_t, wantB_f, Bool.and_eq_true, Bool.not_eq_true', Bool.not_true, Bool.not_false, and_true, true_and] at hQz); simp only [go_sem, *] <;> rfl)); (case hp => intro hQz; first | exact c6 | (have hXz := c6; simp only [go_sem, *] at hXz; exact hXz)))
    | (apply Awp.reg; (case hn => (simp only [List.length_cons, List.length_nil, Nat.reduceAdd] <;> rfl)))
    | (refine Awp.skip ?_; try simp only [go_sem, *])
    | refine Awp.block ?_
    | (apply Awp.cond; (case hc => (simp only [go_sem, *] <;> rfl)); all_goals (intro hg; (try simp only [Bool.not_true, Bool.not_false, reduceCtorEq] at hg)))
    | refine Awp.seq ?_
    | (apply sl_a; (case hc => rfl); (case he => (simp only [go_sem, *] <;> rfl)); (case hu => (simp only [updL_nil, updL_cons] <;> rfl)); (case hl => (simp only [List.map_cons, List.map_nil] <;> rfl)); (case hp => first | trivial | omega))
    | (apply sl_gn; (case hv => (simp only [go_sem, *] <;> rfl)); (case hbw => rfl))
    | (apply sl_ga; (case hb => rfl); (case hv => (simp only [go_sem, *] <;> rfl)); (case he => (simp only [go_sem, *] <;> rfl)); (case hu => (simp only [updL_nil, updL_cons] <;> rfl)); (case hl => (simp only [List.map_cons, List.map_nil] <;> rfl)); (case hp => first | trivial | omega))
    | (apply sl_c; (case hc => (simp only [go_sem, *] <;> rfl)); (case hl => (simp only [go_sem, *] <;> rfl)); (case hn => (simp only [go_sem, *] <;> rfl)); (case hp => first | exact c5 | (have hXz := c5; simp only [go_sem, *] at hXz; exact hXz)); (case hd => first | exact .inl rfl | exact .inr (.v _) | exact .inr .any | exact .inr .nils); (case hm => first | decide | (simp; done)))
    | (refine sl_nil (And.intro (by first | exact drawOk_of (by decide +kernel) | (simp only [List.map_cons, List.map_nil]; exact drawOk_of (by decide +kernel)) | decide) ?_)))
      all_goals (refine hQ _ _ ?_; clear c5 c6 hQ; (apply Ghost.mk [] []; (case hdead => rfl); (case hinj => rfl); (case hV => (simp only [go_sem, *]) <;> (repeat' (first | exact View.int (by first | rfl | omega | (simp; done) | (rw [wrap_i64] <;> (try simp only [Int.natCast_add]) <;> omega) | (simp [*]; done))))); (case hB => (simp only [go_sem, *]) <;> (repeat' (first | skip; done)))))
end Go.Proofs
end
section
set_option linter.unusedVariables false
set_option linter.unusedSimpArgs false
namespace Go.Proofs
open Go Go.Ab
set_option maxHeartbeats 8000000
set_option maxRecDepth 100000
set_option linter.unusedSimpArgs false
set_option linter.unusedVariables false
attribute [local irreducible] Awp aops aopsL Go.Ab.Pure PureOwn

theorem partsB_ok (l : List Wl) (p : ByteArray) (x y z : Int) : Pure Try.prog 10 [.sl (wls l), .v (.string p), .agg [.v (.int .i64 x), .v (.int .i64 y), .v (.int .i64 z)]] (.v (.bool true)) := by
  have c0 := right_ok l
  cases h1 : rightB l
  · rw [h1] at c0
    refine fn_pure Try.F10 (Nat.le_of_ble_eq_true rfl) ?_; unfold Try.ac10
    repeat' (first
    | (apply Awp.sreg; (case hn => (simp only [List.length_cons, List.length_nil, Nat.reduceAdd] <;> rfl)))
    | (refine st_nil ?_)
    | (apply st_a; (case hc => rfl); (case he => (simp only [go_sem, *] <;> rfl)); (case hu => (simp only [updL_nil, updL_cons] <;> rfl)); (case hp => first | trivial))
    | (apply st_m; (case hc => rfl); (case hg => (simp only [go_sem, *] <;> rfl)); (case he => (intro hQz; (try simp only [wantB_t, wantB_f, Bool.and_eq_true, Bool.not_eq_true', Bool.not_true, Bool.not_false, and_true, true_and] at hQz); simp only [go_sem, *] <;> rfl)); (case hp => (intro hQz; (try simp only [wantB_t, wantB_f, Bool.and_eq_true, Bool.not_eq_true', Bool.or_eq_false_iff, decide_eq_true_eq, decide_eq_false_iff_not, beq_iff_eq, beq_eq_false_iff_ne, bne_iff_ne, bne_eq_false_iff_eq, Int.not_lt, Int.not_le, Int.ofNat_lt, Int.ofNat_le] at hQz); first | trivial)))
    | (apply st_c; (case hc => (simp only [go_sem, *] <;> rfl)); (case hl => (simp only [go_sem, *] <;> rfl)); (case hn => (simp only [go_sem, *] <;> rfl)); (case hp => first | exact c0 | (have hXz := c0; simp only [go_sem, *] at hXz; exact hXz)))
    | (apply st_c; (case hc => (simp only [go_sem, *] <;> rfl)); (case hl => (simp only [go_sem, *] <;> rfl)); (case hn => (simp only [go_sem, *] <;> rfl)); (case hp => first | exact awake_ok | (have hXz := awake_ok; simp only [go_sem, *] at hXz; exact hXz)))
    | (refine Awp.ret ?_; try simp only [go_sem, *])
    | (apply Awp.cond; (case hc => (simp only [go_sem, *] <;> rfl)); all_goals (intro hg; (try simp only [Bool.not_true, Bool.not_false, reduceCtorEq] at hg)))
    | refine Awp.seq ?_)
    all_goals repeat' (first | exact Lower.bool (by first | rfl | (simp only [true_and, Bool.true_and, Bool.false_and, Bool.and_true, Bool.and_false, Bool.true_or, Bool.false_or, reduceIte, Bool.false_eq_true, *]; done) | (simp only [true_and, reduceIte, Bool.false_eq_true, *] <;> rfl) | (simp [true_and]; done) | (simp_all [true_and]; done) | omega))
  rw [h1] at c0
  by_cases hxy : y < x
  · refine fn_pure Try.F10 (Nat.le_of_ble_eq_true rfl) ?_; unfold Try.ac10
    repeat' (first
    | (apply Awp.sreg; (case hn => (simp only [List.length_cons, List.length_nil, Nat.reduceAdd] <;> rfl)))
    | (refine st_nil ?_)
    | (apply st_a; (case hc => rfl); (case he => (simp only [go_sem, *] <;> rfl)); (case hu => (simp only [updL_nil, updL_cons] <;> rfl)); (case hp => first | trivial))
    | (apply st_m; (case hc => rfl); (case hg => (simp only [go_sem, *] <;> rfl)); (case he => (intro hQz; (try simp only [wantB_t, wantB_f, Bool.and_eq_true, Bool.not_eq_true', Bool.not_true, Bool.not_false, and_true, true_and] at hQz); simp only [go_sem, *] <;> rfl)); (case hp => (intro hQz; (try simp only [wantB_t, wantB_f, Bool.and_eq_true, Bool.not_eq_true', Bool.or_eq_false_iff, decide_eq_true_eq, decide_eq_false_iff_not, beq_iff_eq, beq_eq_false_iff_ne, bne_iff_ne, bne_eq_false_iff_eq, Int.not_lt, Int.not_le, Int.ofNat_lt, Int.ofNat_le] at hQz); first | trivial)))
    | (apply st_c; (case hc => (simp only [go_sem, *] <;> rfl)); (case hl => (simp only [go_sem, *] <;> rfl)); (case hn => (simp only [go_sem, *] <;> rfl)); (case hp => first | exact c0 | (have hXz := c0; simp only [go_sem, *] at hXz; exact hXz)))
    | (apply st_c; (case hc => (simp only [go_sem, *] <;> rfl)); (case hl => (simp only [go_sem, *] <;> rfl)); (case hn => (simp only [go_sem, *] <;> rfl)); (case hp => first | exact awake_ok | (have hXz := awake_ok; simp only [go_sem, *] at hXz; exact hXz)))
    | (refine Awp.ret ?_; try simp only [go_sem, *])
    | (apply Awp.cond; (case hc => (simp only [go_sem, *] <;> rfl)); all_goals (intro hg; (try simp only [Bool.not_true, Bool.not_false, reduceCtorEq] at hg)))
    | refine Awp.seq ?_)
    all_goals repeat' (first | exact Lower.bool (by first | rfl | (simp only [true_and, Bool.true_and, Bool.false_and, Bool.and_true, Bool.and_false, Bool.true_or, Bool.false_or, reduceIte, Bool.false_eq_true, *]; done) | (simp only [true_and, reduceIte, Bool.false_eq_true, *] <;> rfl) | (simp [true_and]; done) | (simp_all [true_and]; done) | omega))
  by_cases hyz : z < y
  · refine fn_pure Try.F10 (Nat.le_of_ble_eq_true rfl) ?_; unfold Try.ac10
    repeat' (first
    | (apply Awp.sreg; (case hn => (simp only [List.length_cons, List.length_nil, Nat.reduceAdd] <;> rfl)))
    | (refine st_nil ?_)
    | (apply st_a; (case hc => rfl); (case he => (simp only [go_sem, *] <;> rfl)); (case hu => (simp only [updL_nil, updL_cons] <;> rfl)); (case hp => first | trivial))
    | (apply st_m; (case hc => rfl); (case hg => (simp only [go_sem, *] <;> rfl)); (case he => (intro hQz; (try simp only [wantB_t, wantB_f, Bool.and_eq_true, Bool.not_eq_true', Bool.not_true, Bool.not_false, and_true, true_and] at hQz); simp only [go_sem, *] <;> rfl)); (case hp => (intro hQz; (try simp only [wantB_t, wantB_f, Bool.and_eq_true, Bool.not_eq_true', Bool.or_eq_false_iff, decide_eq_true_eq, decide_eq_false_iff_not, beq_iff_eq, beq_eq_false_iff_ne, bne_iff_ne, bne_eq_false_iff_eq, Int.not_lt, Int.not_le, Int.ofNat_lt, Int.ofNat_le] at hQz); first | trivial)))
    | (apply st_c; (case hc => (simp only [go_sem, *] <;> rfl)); (case hl => (simp only [go_sem, *] <;> rfl)); (case hn => (simp only [go_sem, *] <;> rfl)); (case hp => first | exact c0 | (have hXz := c0; simp only [go_sem, *] at hXz; exact hXz)))
    | (apply st_c; (case hc => (simp only [go_sem, *] <;> rfl)); (case hl => (simp only [go_sem, *] <;> rfl)); (case hn => (simp only [go_sem, *] <;> rfl)); (case hp => first | exact awake_ok | (have hXz := awake_ok; simp only [go_sem, *] at hXz; exact hXz)))
    | (refine Awp.ret ?_; try simp only [go_sem, *])
    | (apply Awp.cond; (case hc => (simp only [go_sem, *] <;> rfl)); all_goals (intro hg; (try simp only [Bool.not_true, Bool.not_false, reduceCtorEq] at hg)))
    | refine Awp.seq ?_)
    all_goals repeat' (first | exact Lower.bool (by first | rfl | (simp only [true_and, Bool.true_and, Bool.false_and, Bool.and_true, Bool.and_false, Bool.true_or, Bool.false_or, reduceIte, Bool.false_eq_true, *]; done) | (simp only [true_and, reduceIte, Bool.false_eq_true, *] <;> rfl) | (simp [true_and]; done) | (simp_all [true_and]; done) | omega))
  obtain ⟨hl, hs, hgs⟩ := right_get h1
  have hs' : ∀ i, i < l.length → (l.getD i zeroWl).sk.length ≤ 40 := fun i hi => by have := hs i hi; omega
  have hc : chkE l = 0 := by
    unfold rightB at h1
    rw [Bool.and_eq_true, beq_iff_eq] at h1
    exact h1.2
  have c1 := (lapses_ok l p ⟨x, y⟩ (by omega) hs').pure
  have c2 := (lapses_ok l p ⟨y, z⟩ (by omega) hs').pure
  have c3 := (lapses_ok l p ⟨x, z⟩ (by omega) hs').pure
  have hbl := busyL_len p l (get_all hs')
  have hLl : ∀ w : Sp, (lapE l p w).length < 100000 := fun w => by
    have hml := minus_len [w] (busyL l p)
    unfold lapE
    simp only [List.length_cons, List.length_nil] at hml
    omega
  have c4 := samesp_ok (lapE l p ⟨x, z⟩) (by have := hLl ⟨x, z⟩; omega)
  have hA := hLl ⟨x, y⟩
  have hB := hLl ⟨y, z⟩
  have g1 := lap_g1 l p (x := x) (y := y) (z := z) (by omega) (by omega)
  have g2 := fun n => lap_g2 l p (x := x) (y := y) (z := z) (n := n) (by omega) (by omega)
  clear h1 hLl hbl
  generalize lapE l p ⟨x, y⟩ = A at *
  generalize lapE l p ⟨y, z⟩ = B at *
  generalize lapE l p ⟨x, z⟩ = C at *
  have hoA := sps_one A
  have hoB := sps_one B
  have hnA := sps_len A
  have hnB := sps_len B
  by_cases hA0 : A.length = 0
  · have hd1 : decide ((0 : Int) < (A.length : Int)) = false := decide_eq_false (by omega)
    have hC := g1 (fun n hn => by omega)
    clear g1 g2
    have hC' : sps A ++ sps B = sps C := by rw [← hC]; simp [sps]
    clear hC hA0
    refine fn_pure Try.F10 (Nat.le_of_ble_eq_true rfl) ?_; unfold Try.ac10
    repeat' (first
    | (apply Awp.sreg; (case hn => (simp only [List.length_cons, List.length_nil, Nat.reduceAdd] <;> rfl)))
    | (apply Awp.sdraw; (case hn => (simp only [List.length_cons, List.length_nil, Nat.reduceAdd] <;> rfl)))
    | (refine st_nil ?_)
    | (apply st_a; (case hc => rfl); (case he => (simp only [go_sem, *] <;> rfl)); (case hu => (simp only [updL_nil, updL_cons] <;> rfl)); (case hp => first | trivial))
    | (apply st_m; (case hc => rfl); (case hg => (simp only [go_sem, *] <;> rfl)); (case he => (intro hQz; (try simp only [wantB_t, wantB_f, Bool.and_eq_true, Bool.not_eq_true', Bool.not_true, Bool.not_false, and_true, true_and] at hQz); simp only [go_sem, *] <;> rfl)); (case hp => (intro hQz; (try simp only [wantB_t, wantB_f, Bool.and_eq_true, Bool.not_eq_true', Bool.or_eq_false_iff, decide_eq_true_eq, decide_eq_false_iff_not, beq_iff_eq, beq_eq_false_iff_ne, bne_iff_ne, bne_eq_false_iff_eq, Int.not_lt, Int.not_le, Int.ofNat_lt, Int.ofNat_le] at hQz); first | trivial)))
    | (apply st_c; (case hc => (simp only [go_sem, *] <;> rfl)); (case hl => (simp only [go_sem, *] <;> rfl)); (case hn => (simp only [go_sem, *] <;> rfl)); (case hp => first | exact c0 | (have hXz := c0; simp only [go_sem, *] at hXz; exact hXz)))
    | (refine Awp.skip ?_; try simp only [go_sem, *])
    | refine Awp.block ?_
    | (apply Awp.cond; (case hc => (simp only [go_sem, *] <;> rfl)); all_goals (intro hg; (try simp only [Bool.not_true, Bool.not_false, reduceCtorEq] at hg)))
    | refine Awp.seq ?_
    | (apply sl_a; (case hc => rfl); (case he => (simp only [go_sem, *] <;> rfl)); (case hu => (simp only [updL_nil, updL_cons] <;> rfl)); (case hl => (simp only [List.map_cons, List.map_nil] <;> rfl)); (case hp => first | trivial | ((repeat' (refine And.intro ?_ ?_)) <;> first | trivial | assumption | omega | (simp; done) | (simp; omega) | (simp [*]; done))))
    | (apply sl_gn; (case hv => (simp only [go_sem, *] <;> rfl)); (case hbw => rfl))
    | (apply sl_c; (case hc => (simp only [go_sem, *] <;> rfl)); (case hl => (simp only [go_sem, *] <;> rfl)); (case hn => (simp only [go_sem, *] <;> rfl)); (case hp => first | exact c1 | (have hXz := c1; simp only [go_sem, *] at hXz; exact hXz)); (case hd => first | exact .inl rfl | exact .inr (.v _) | exact .inr .any | exact .inr .nils); (case hm => first | decide | (simp; done)))
    | (apply sl_c; (case hc => (simp only [go_sem, *] <;> rfl)); (case hl => (simp only [go_sem, *] <;> rfl)); (case hn => (simp only [go_sem, *] <;> rfl)); (case hp => first | exact c2 | (have hXz := c2; simp only [go_sem, *] at hXz; exact hXz)); (case hd => first | exact .inl rfl | exact .inr (.v _) | exact .inr .any | exact .inr .nils); (case hm => first | decide | (simp; done)))
    | (apply sl_c; (case hc => (simp only [go_sem, *] <;> rfl)); (case hl => (simp only [go_sem, *] <;> rfl)); (case hn => (simp only [go_sem, *] <;> rfl)); (case hp => first | exact c3 | (have hXz := c3; simp only [go_sem, *] at hXz; exact hXz)); (case hd => first | exact .inl rfl | exact .inr (.v _) | exact .inr .any | exact .inr .nils); (case hm => first | decide | (simp; done)))
    | (apply sl_c; (case hc => (simp only [go_sem, *] <;> rfl)); (case hl => (simp only [go_sem, *] <;> rfl)); (case hn => (simp only [go_sem, *] <;> rfl)); (case hp => first | exact c4 | (have hXz := c4; simp only [go_sem, *] at hXz; exact hXz)); (case hd => first | exact .inl rfl | exact .inr (.v _) | exact .inr .any | exact .inr .nils); (case hm => first | decide | (simp; done)))
    | (refine sl_nil (And.intro (by first | exact drawOk_of (by decide +kernel) | (simp only [List.map_cons, List.map_nil]; exact drawOk_of (by decide +kernel)) | decide) ?_)))
    clear c0 c1 c2 c3 c4 hA hB hoA hoB hnA hnB
    refine Awp.loop (fun i : Nat => i ≤ l.length) 80 (fun i => mkS [(0, .sl (wls l)), (9, .v (.int .i64 i))] []) (fun i => l.length - i) 0 (by omega) ?_ ?_
    · clear hs hs' hgs hc
      (apply Ghost.mk [] []; (case hdead => rfl); (case hinj => rfl); (case hV => (simp only [go_sem, *]) <;> (repeat' (first | exact View.int (by first | rfl | omega | (simp; done) | (rw [wrap_i64] <;> (try simp only [Int.natCast_add]) <;> omega) | (simp [*]; done))))); (case hB => (simp only [go_sem, *]) <;> (repeat' (first | skip; done))))
    · intro i hi
      by_cases hlt : i < l.length
      · have hlt' : (i : Int) < l.length := by omega
        have hat := wls_at l i hlt
        have hz : ((l.getD i zeroWl).cells).length = 2 := rfl
        repeat' (first
    | (apply Awp.sreg; (case hn => (simp only [List.length_cons, List.length_nil, Nat.reduceAdd] <;> rfl)))
    | (refine st_nil ?_)
    | (apply st_a; (case hc => rfl); (case he => (simp only [go_sem, *] <;> rfl)); (case hu => (simp only [updL_nil, updL_cons] <;> rfl)); (case hp => first | trivial))
    | (refine Awp.skip ?_; try simp only [go_sem, *])
    | refine Awp.block ?_
    | (apply Awp.cond; (case hc => (simp only [go_sem, *] <;> rfl)); all_goals (intro hg; (try simp only [Bool.not_true, Bool.not_false, reduceCtorEq] at hg)))
    | refine Awp.seq ?_)
        refine Awp.loop (fun k : Nat => k ≤ (l.getD i zeroWl).sk.length) 90 (fun k => pS l i k) (fun k => (l.getD i zeroWl).sk.length - k) 0 (by omega) ?_ ?_
        · unfold pS
          (apply Ghost.mk [] []; (case hdead => rfl); (case hinj => rfl); (case hV => (simp only [go_sem, *]) <;> (repeat' (first | exact View.int (by first | rfl | omega | (simp; done) | (rw [wrap_i64] <;> (try simp only [Int.natCast_add]) <;> omega) | (simp [*]; done))))); (case hB => (simp only [go_sem, *]) <;> (repeat' (first | skip; done))))
        · intro k hk
          by_cases hkl : k < (l.getD i zeroWl).sk.length
          · by_cases h0 : 0 < k
            · exact parts_next l hc (by omega) hs' hgs i k hlt hkl h0 fun nx S hG => ⟨k + 1, by omega, by omega, hG⟩
            · exact parts_first l hc (by omega) hs' hgs i k hlt hkl h0 fun nx S hG => ⟨k + 1, by omega, by omega, hG⟩
          · have hkl' : ¬ (k : Int) < (l.getD i zeroWl).sk.length := by omega
            unfold pS
            clear hs hs' hgs hc
            repeat' (first
    | (apply Awp.sreg; (case hn => (simp only [List.length_cons, List.length_nil, Nat.reduceAdd] <;> rfl)))
    | (refine st_nil ?_)
    | (apply st_a; (case hc => rfl); (case he => (simp only [go_sem, *] <;> rfl)); (case hu => (simp only [updL_nil, updL_cons] <;> rfl)); (case hp => first | trivial | omega))
    | (apply Awp.reg; (case hn => (simp only [List.length_cons, List.length_nil, Nat.reduceAdd] <;> rfl)))
    | (refine Awp.exit ?_; try simp only [go_sem, *])
    | (apply Awp.cond; (case hc => (simp only [go_sem, *] <;> rfl)); all_goals (intro hg; (try simp only [Bool.not_true, Bool.not_false, reduceCtorEq] at hg)))
    | refine Awp.seq ?_)
            refine ⟨i + 1, by omega, by omega, ?_⟩
            (apply Ghost.mk [] []; (case hdead => rfl); (case hinj => rfl); (case hV => (simp only [go_sem, *]) <;> (repeat' (first | exact View.int (by first | rfl | omega | (simp; done) | (rw [wrap_i64] <;> (try simp only [Int.natCast_add]) <;> omega) | (simp [*]; done))))); (case hB => (simp only [go_sem, *]) <;> (repeat' (first | skip; done))))
      · have hlt' : ¬ (i : Int) < l.length := by omega
        clear hs hs' hgs hc
        repeat' (first
    | (apply Awp.sreg; (case hn => (simp only [List.length_cons, List.length_nil, Nat.reduceAdd] <;> rfl)))
    | (refine st_nil ?_)
    | (apply st_a; (case hc => rfl); (case he => (simp only [go_sem, *] <;> rfl)); (case hu => (simp only [updL_nil, updL_cons] <;> rfl)); (case hp => first | trivial))
    | (apply st_c; (case hc => (simp only [go_sem, *] <;> rfl)); (case hl => (simp only [go_sem, *] <;> rfl)); (case hn => (simp only [go_sem, *] <;> rfl)); (case hp => first | exact awake_ok | (have hXz := awake_ok; simp only [go_sem, *] at hXz; exact hXz)))
    | (refine Awp.ret ?_; try simp only [go_sem, *])
    | (refine Awp.exit ?_; try simp only [go_sem, *])
    | (apply Awp.cond; (case hc => (simp only [go_sem, *] <;> rfl)); all_goals (intro hg; (try simp only [Bool.not_true, Bool.not_false, reduceCtorEq] at hg)))
    | refine Awp.seq ?_)
        all_goals repeat' (first | exact Lower.bool (by first | rfl | (simp only [true_and, Bool.true_and, Bool.false_and, Bool.and_true, Bool.and_false, Bool.true_or, Bool.false_or, reduceIte, Bool.false_eq_true, *]; done) | (simp only [true_and, reduceIte, Bool.false_eq_true, *] <;> rfl) | (simp [true_and]; done) | (simp_all [true_and]; done) | omega))
  obtain ⟨n, hn⟩ : ∃ n, A.length = n + 1 := ⟨A.length - 1, by omega⟩
  have hd1 : decide ((0 : Int) < (A.length : Int)) = true := decide_eq_true (by omega)
  by_cases hB0 : B.length = 0
  · have hd2 : decide ((0 : Int) < (B.length : Int)) = false := decide_eq_false (by omega)
    have hC := g1 (fun n hn h0 => by omega)
    clear g1 g2
    have hC' : sps A ++ sps B = sps C := by rw [← hC]; simp [sps]
    clear hC hA0 hB0 hn
    refine fn_pure Try.F10 (Nat.le_of_ble_eq_true rfl) ?_; unfold Try.ac10
    repeat' (first
    | (apply Awp.sreg; (case hn => (simp only [List.length_cons, List.length_nil, Nat.reduceAdd] <;> rfl)))
    | (apply Awp.sdraw; (case hn => (simp only [List.length_cons, List.length_nil, Nat.reduceAdd] <;> rfl)))
    | (refine st_nil ?_)
    | (apply st_a; (case hc => rfl); (case he => (simp only [go_sem, *] <;> rfl)); (case hu => (simp only [updL_nil, updL_cons] <;> rfl)); (case hp => first | trivial))
    | (apply st_m; (case hc => rfl); (case hg => (simp only [go_sem, *] <;> rfl)); (case he => (intro hQz; (try simp only [wantB_t, wantB_f, Bool.and_eq_true, Bool.not_eq_true', Bool.not_true, Bool.not_false, and_true, true_and] at hQz); simp only [go_sem, *] <;> rfl)); (case hp => (intro hQz; (try simp only [wantB_t, wantB_f, Bool.and_eq_true, Bool.not_eq_true', Bool.or_eq_false_iff, decide_eq_true_eq, decide_eq_false_iff_not, beq_iff_eq, beq_eq_false_iff_ne, bne_iff_ne, bne_eq_false_iff_eq, Int.not_lt, Int.not_le, Int.ofNat_lt, Int.ofNat_le] at hQz); first | trivial)))
    | (apply st_c; (case hc => (simp only [go_sem, *] <;> rfl)); (case hl => (simp only [go_sem, *] <;> rfl)); (case hn => (simp only [go_sem, *] <;> rfl)); (case hp => first | exact c0 | (have hXz := c0; simp only [go_sem, *] at hXz; exact hXz)))
    | (refine Awp.skip ?_; try simp only [go_sem, *])
    | refine Awp.block ?_
    | (apply Awp.cond; (case hc => (simp only [go_sem, *] <;> rfl)); all_goals (intro hg; (try simp only [Bool.not_true, Bool.not_false, reduceCtorEq] at hg)))
    | refine Awp.seq ?_
    | (apply sl_a; (case hc => rfl); (case he => (simp only [go_sem, *] <;> rfl)); (case hu => (simp only [updL_nil, updL_cons] <;> rfl)); (case hl => (simp only [List.map_cons, List.map_nil] <;> rfl)); (case hp => first | trivial | ((repeat' (refine And.intro ?_ ?_)) <;> first | trivial | assumption | omega | (simp; done) | (simp; omega) | (simp [*]; done))))
    | (apply sl_gn; (case hv => (simp only [go_sem, *] <;> rfl)); (case hbw => rfl))
    | (apply sl_ga; (case hb => rfl); (case hv => (simp only [go_sem, *] <;> rfl)); (case he => (simp only [go_sem, *] <;> rfl)); (case hu => (simp only [updL_nil, updL_cons] <;> rfl)); (case hl => (simp only [List.map_cons, List.map_nil] <;> rfl)); (case hp => first | trivial))
    | (apply sl_c; (case hc => (simp only [go_sem, *] <;> rfl)); (case hl => (simp only [go_sem, *] <;> rfl)); (case hn => (simp only [go_sem, *] <;> rfl)); (case hp => first | exact c1 | (have hXz := c1; simp only [go_sem, *] at hXz; exact hXz)); (case hd => first | exact .inl rfl | exact .inr (.v _) | exact .inr .any | exact .inr .nils); (case hm => first | decide | (simp; done)))
    | (apply sl_c; (case hc => (simp only [go_sem, *] <;> rfl)); (case hl => (simp only [go_sem, *] <;> rfl)); (case hn => (simp only [go_sem, *] <;> rfl)); (case hp => first | exact c2 | (have hXz := c2; simp only [go_sem, *] at hXz; exact hXz)); (case hd => first | exact .inl rfl | exact .inr (.v _) | exact .inr .any | exact .inr .nils); (case hm => first | decide | (simp; done)))
    | (apply sl_c; (case hc => (simp only [go_sem, *] <;> rfl)); (case hl => (simp only [go_sem, *] <;> rfl)); (case hn => (simp only [go_sem, *] <;> rfl)); (case hp => first | exact c3 | (have hXz := c3; simp only [go_sem, *] at hXz; exact hXz)); (case hd => first | exact .inl rfl | exact .inr (.v _) | exact .inr .any | exact .inr .nils); (case hm => first | decide | (simp; done)))
    | (apply sl_c; (case hc => (simp only [go_sem, *] <;> rfl)); (case hl => (simp only [go_sem, *] <;> rfl)); (case hn => (simp only [go_sem, *] <;> rfl)); (case hp => first | exact c4 | (have hXz := c4; simp only [go_sem, *] at hXz; exact hXz)); (case hd => first | exact .inl rfl | exact .inr (.v _) | exact .inr .any | exact .inr .nils); (case hm => first | decide | (simp; done)))
    | (refine sl_nil (And.intro (by first | exact drawOk_of (by decide +kernel) | (simp only [List.map_cons, List.map_nil]; exact drawOk_of (by decide +kernel)) | decide) ?_)))
    clear c0 c1 c2 c3 c4 hA hB hoA hoB hnA hnB
    refine Awp.loop (fun i : Nat => i ≤ l.length) 80 (fun i => mkS [(0, .sl (wls l)), (9, .v (.int .i64 i))] []) (fun i => l.length - i) 0 (by omega) ?_ ?_
    · clear hs hs' hgs hc
      (apply Ghost.mk [] []; (case hdead => rfl); (case hinj => rfl); (case hV => (simp only [go_sem, *]) <;> (repeat' (first | exact View.int (by first | rfl | omega | (simp; done) | (rw [wrap_i64] <;> (try simp only [Int.natCast_add]) <;> omega) | (simp [*]; done))))); (case hB => (simp only [go_sem, *]) <;> (repeat' (first | skip; done))))
    · intro i hi
      by_cases hlt : i < l.length
      · have hlt' : (i : Int) < l.length := by omega
        have hat := wls_at l i hlt
        have hz : ((l.getD i zeroWl).cells).length = 2 := rfl
        repeat' (first
    | (apply Awp.sreg; (case hn => (simp only [List.length_cons, List.length_nil, Nat.reduceAdd] <;> rfl)))
    | (refine st_nil ?_)
    | (apply st_a; (case hc => rfl); (case he => (simp only [go_sem, *] <;> rfl)); (case hu => (simp only [updL_nil, updL_cons] <;> rfl)); (case hp => first | trivial))
    | (refine Awp.skip ?_; try simp only [go_sem, *])
    | refine Awp.block ?_
    | (apply Awp.cond; (case hc => (simp only [go_sem, *] <;> rfl)); all_goals (intro hg; (try simp only [Bool.not_true, Bool.not_false, reduceCtorEq] at hg)))
    | refine Awp.seq ?_)
        refine Awp.loop (fun k : Nat => k ≤ (l.getD i zeroWl).sk.length) 90 (fun k => pS l i k) (fun k => (l.getD i zeroWl).sk.length - k) 0 (by omega) ?_ ?_
        · unfold pS
          (apply Ghost.mk [] []; (case hdead => rfl); (case hinj => rfl); (case hV => (simp only [go_sem, *]) <;> (repeat' (first | exact View.int (by first | rfl | omega | (simp; done) | (rw [wrap_i64] <;> (try simp only [Int.natCast_add]) <;> omega) | (simp [*]; done))))); (case hB => (simp only [go_sem, *]) <;> (repeat' (first | skip; done))))
        · intro k hk
          by_cases hkl : k < (l.getD i zeroWl).sk.length
          · by_cases h0 : 0 < k
            · exact parts_next l hc (by omega) hs' hgs i k hlt hkl h0 fun nx S hG => ⟨k + 1, by omega, by omega, hG⟩
            · exact parts_first l hc (by omega) hs' hgs i k hlt hkl h0 fun nx S hG => ⟨k + 1, by omega, by omega, hG⟩
          · have hkl' : ¬ (k : Int) < (l.getD i zeroWl).sk.length := by omega
            unfold pS
            clear hs hs' hgs hc
            repeat' (first
    | (apply Awp.sreg; (case hn => (simp only [List.length_cons, List.length_nil, Nat.reduceAdd] <;> rfl)))
    | (refine st_nil ?_)
    | (apply st_a; (case hc => rfl); (case he => (simp only [go_sem, *] <;> rfl)); (case hu => (simp only [updL_nil, updL_cons] <;> rfl)); (case hp => first | trivial | omega))
    | (apply Awp.reg; (case hn => (simp only [List.length_cons, List.length_nil, Nat.reduceAdd] <;> rfl)))
    | (refine Awp.exit ?_; try simp only [go_sem, *])
    | (apply Awp.cond; (case hc => (simp only [go_sem, *] <;> rfl)); all_goals (intro hg; (try simp only [Bool.not_true, Bool.not_false, reduceCtorEq] at hg)))
    | refine Awp.seq ?_)
            refine ⟨i + 1, by omega, by omega, ?_⟩
            (apply Ghost.mk [] []; (case hdead => rfl); (case hinj => rfl); (case hV => (simp only [go_sem, *]) <;> (repeat' (first | exact View.int (by first | rfl | omega | (simp; done) | (rw [wrap_i64] <;> (try simp only [Int.natCast_add]) <;> omega) | (simp [*]; done))))); (case hB => (simp only [go_sem, *]) <;> (repeat' (first | skip; done))))
      · have hlt' : ¬ (i : Int) < l.length := by omega
        clear hs hs' hgs hc
        repeat' (first
    | (apply Awp.sreg; (case hn => (simp only [List.length_cons, List.length_nil, Nat.reduceAdd] <;> rfl)))
    | (refine st_nil ?_)
    | (apply st_a; (case hc => rfl); (case he => (simp only [go_sem, *] <;> rfl)); (case hu => (simp only [updL_nil, updL_cons] <;> rfl)); (case hp => first | trivial))
    | (apply st_c; (case hc => (simp only [go_sem, *] <;> rfl)); (case hl => (simp only [go_sem, *] <;> rfl)); (case hn => (simp only [go_sem, *] <;> rfl)); (case hp => first | exact awake_ok | (have hXz := awake_ok; simp only [go_sem, *] at hXz; exact hXz)))
    | (refine Awp.ret ?_; try simp only [go_sem, *])
    | (refine Awp.exit ?_; try simp only [go_sem, *])
    | (apply Awp.cond; (case hc => (simp only [go_sem, *] <;> rfl)); all_goals (intro hg; (try simp only [Bool.not_true, Bool.not_false, reduceCtorEq] at hg)))
    | refine Awp.seq ?_)
        all_goals repeat' (first | exact Lower.bool (by first | rfl | (simp only [true_and, Bool.true_and, Bool.false_and, Bool.and_true, Bool.and_false, Bool.true_or, Bool.false_or, reduceIte, Bool.false_eq_true, *]; done) | (simp only [true_and, reduceIte, Bool.false_eq_true, *] <;> rfl) | (simp [true_and]; done) | (simp_all [true_and]; done) | omega))
  have hd2 : decide ((0 : Int) < (B.length : Int)) = true := decide_eq_true (by omega)
  have hw1 : IntKind.i64.wrap ((A.length : Int) - 1) = (n : Int) := by rw [wrap_i64 (by omega) (by omega)]; omega
  have hnA' : n < A.length := by omega
  have hnAi : (n : Int) < A.length := by omega
  have hn0 : (0 : Int) ≤ (n : Int) := by omega
  have hB0n : 0 < B.length := by omega
  have hB0i : (0 : Int) < B.length := by omega
  have hata := sps_at A n hnA'
  have hza : ((A.getD n zeroSp).cells).length = 2 := rfl
  have hatb := sps_at B 0 hB0n
  have hzb : ((B.getD 0 zeroSp).cells).length = 2 := rfl
  by_cases ht : (A.getD n zeroSp).b = (B.getD 0 zeroSp).a
  · have hC := g2 n hn hB0n ht
    clear g1 g2
    have hteq : ((A.getD n zeroSp).b == (B.getD 0 zeroSp).a) = true := by rw [beq_iff_eq]; exact ht
    generalize A.getD n zeroSp = u at *
    generalize B.getD 0 zeroSp = v at *
    have hC' : (sps A).take n ++ [.v (.int .i64 u.a), .v (.int .i64 v.b)] :: (sps B).drop 1 = sps C := by rw [← hC]; simp [sps, Sp.cells, List.map_take, List.map_drop]
    have hoB1 : ∀ y ∈ (sps B).drop 1, y.length = 2 := fun y hy => hoB y (List.mem_of_mem_drop hy)
    have hnB1 : ((sps B).drop 1).length = B.length - 1 := by rw [List.length_drop, hnB]
    have htk : (sps B).take B.length = sps B := List.take_of_length_le (by rw [hnB]; exact Nat.le_refl _)
    have hoA1 : ∀ y ∈ (sps A).take n, y.length = 2 := fun y hy => hoA y (List.mem_of_mem_take hy)
    have hnA1 : ((sps A).take n).length = n := by rw [List.length_take, hnA]; omega
    clear hC hA0 hB0 ht hn
    refine fn_pure Try.F10 (Nat.le_of_ble_eq_true rfl) ?_; unfold Try.ac10
    repeat' (first
    | (apply Awp.sreg; (case hn => (simp only [List.length_cons, List.length_nil, Nat.reduceAdd] <;> rfl)))
    | (apply Awp.sdraw; (case hn => (simp only [List.length_cons, List.length_nil, Nat.reduceAdd] <;> rfl)))
    | (refine st_nil ?_)
    | (apply st_a; (case hc => rfl); (case he => (simp only [go_sem, *] <;> rfl)); (case hu => (simp only [updL_nil, updL_cons] <;> rfl)); (case hp => first | trivial | ((repeat' (refine And.intro ?_ ?_)) <;> first | trivial | assumption | omega | (simp; done) | (simp; omega) | (simp [*]; done))))
    | (apply st_m; (case hc => rfl); (case hg => (simp only [go_sem, *] <;> rfl)); (case he => (intro hQz; (try simp only [wantB_t, wantB_f, Bool.and_eq_true, Bool.not_eq_true', Bool.not_true, Bool.not_false, and_true, true_and] at hQz); simp only [go_sem, *] <;> rfl)); (case hp => (intro hQz; (try simp only [wantB_t, wantB_f, Bool.and_eq_true, Bool.not_eq_true', Bool.or_eq_false_iff, decide_eq_true_eq, decide_eq_false_iff_not, beq_iff_eq, beq_eq_false_iff_ne, bne_iff_ne, bne_eq_false_iff_eq, Int.not_lt, Int.not_le, Int.ofNat_lt, Int.ofNat_le] at hQz); first | trivial)))
    | (apply st_c; (case hc => (simp only [go_sem, *] <;> rfl)); (case hl => (simp only [go_sem, *] <;> rfl)); (case hn => (simp only [go_sem, *] <;> rfl)); (case hp => first | exact c0 | (have hXz := c0; simp only [go_sem, *] at hXz; exact hXz)))
    | (apply Awp.reg; (case hn => (simp only [List.length_cons, List.length_nil, Nat.reduceAdd] <;> rfl)))
    | (refine Awp.skip ?_; try simp only [go_sem, *])
    | refine Awp.block ?_
    | (apply Awp.cond; (case hc => (simp only [go_sem, *] <;> rfl)); all_goals (intro hg; (try simp only [Bool.not_true, Bool.not_false, reduceCtorEq] at hg)))
    | refine Awp.seq ?_
    | (apply sl_a; (case hc => rfl); (case he => (simp only [go_sem, *] <;> rfl)); (case hu => (simp only [updL_nil, updL_cons] <;> rfl)); (case hl => (simp only [List.map_cons, List.map_nil] <;> rfl)); (case hp => first | trivial | (simp; done) | ((repeat' (refine And.intro ?_ ?_)) <;> first | trivial | assumption | omega | (simp; done) | (simp; omega) | (simp [*]; done))))
    | (apply sl_ga; (case hb => rfl); (case hv => (simp only [go_sem, *] <;> rfl)); (case he => (simp only [go_sem, *] <;> rfl)); (case hu => (simp only [updL_nil, updL_cons] <;> rfl)); (case hl => (simp only [List.map_cons, List.map_nil] <;> rfl)); (case hp => first | trivial))
    | (apply sl_c; (case hc => (simp only [go_sem, *] <;> rfl)); (case hl => (simp only [go_sem, *] <;> rfl)); (case hn => (simp only [go_sem, *] <;> rfl)); (case hp => first | exact c1 | (have hXz := c1; simp only [go_sem, *] at hXz; exact hXz)); (case hd => first | exact .inl rfl | exact .inr (.v _) | exact .inr .any | exact .inr .nils); (case hm => first | decide | (simp; done)))
    | (apply sl_c; (case hc => (simp only [go_sem, *] <;> rfl)); (case hl => (simp only [go_sem, *] <;> rfl)); (case hn => (simp only [go_sem, *] <;> rfl)); (case hp => first | exact c2 | (have hXz := c2; simp only [go_sem, *] at hXz; exact hXz)); (case hd => first | exact .inl rfl | exact .inr (.v _) | exact .inr .any | exact .inr .nils); (case hm => first | decide | (simp; done)))
    | (apply sl_c; (case hc => (simp only [go_sem, *] <;> rfl)); (case hl => (simp only [go_sem, *] <;> rfl)); (case hn => (simp only [go_sem, *] <;> rfl)); (case hp => first | exact c3 | (have hXz := c3; simp only [go_sem, *] at hXz; exact hXz)); (case hd => first | exact .inl rfl | exact .inr (.v _) | exact .inr .any | exact .inr .nils); (case hm => first | decide | (simp; done)))
    | (apply sl_c; (case hc => (simp only [go_sem, *] <;> rfl)); (case hl => (simp only [go_sem, *] <;> rfl)); (case hn => (simp only [go_sem, *] <;> rfl)); (case hp => first | exact c4 | (have hXz := c4; simp only [go_sem, *] at hXz; exact hXz)); (case hd => first | exact .inl rfl | exact .inr (.v _) | exact .inr .any | exact .inr .nils); (case hm => first | decide | (simp; done)))
    | (refine sl_nil (And.intro (by first | exact drawOk_of (by decide +kernel) | (simp only [List.map_cons, List.map_nil]; exact drawOk_of (by decide +kernel)) | decide) ?_)))
    clear c0 c1 c2 c3 c4 hA hB hoA hoB hnA hnB
    refine Awp.loop (fun i : Nat => i ≤ l.length) 80 (fun i => mkS [(0, .sl (wls l)), (9, .v (.int .i64 i))] []) (fun i => l.length - i) 0 (by omega) ?_ ?_
    · clear hs hs' hgs hc
      (apply Ghost.mk [] []; (case hdead => rfl); (case hinj => rfl); (case hV => (simp only [go_sem, *]) <;> (repeat' (first | exact View.int (by first | rfl | omega | (simp; done) | (rw [wrap_i64] <;> (try simp only [Int.natCast_add]) <;> omega) | (simp [*]; done))))); (case hB => (simp only [go_sem, *]) <;> (repeat' (first | skip; done))))
    · intro i hi
      by_cases hlt : i < l.length
      · have hlt' : (i : Int) < l.length := by omega
        have hat := wls_at l i hlt
        have hz : ((l.getD i zeroWl).cells).length = 2 := rfl
        repeat' (first
    | (apply Awp.sreg; (case hn => (simp only [List.length_cons, List.length_nil, Nat.reduceAdd] <;> rfl)))
    | (refine st_nil ?_)
    | (apply st_a; (case hc => rfl); (case he => (simp only [go_sem, *] <;> rfl)); (case hu => (simp only [updL_nil, updL_cons] <;> rfl)); (case hp => first | trivial))
    | (refine Awp.skip ?_; try simp only [go_sem, *])
    | refine Awp.block ?_
    | (apply Awp.cond; (case hc => (simp only [go_sem, *] <;> rfl)); all_goals (intro hg; (try simp only [Bool.not_true, Bool.not_false, reduceCtorEq] at hg)))
    | refine Awp.seq ?_)
        refine Awp.loop (fun k : Nat => k ≤ (l.getD i zeroWl).sk.length) 90 (fun k => pS l i k) (fun k => (l.getD i zeroWl).sk.length - k) 0 (by omega) ?_ ?_
        · unfold pS
          (apply Ghost.mk [] []; (case hdead => rfl); (case hinj => rfl); (case hV => (simp only [go_sem, *]) <;> (repeat' (first | exact View.int (by first | rfl | omega | (simp; done) | (rw [wrap_i64] <;> (try simp only [Int.natCast_add]) <;> omega) | (simp [*]; done))))); (case hB => (simp only [go_sem, *]) <;> (repeat' (first | skip; done))))
        · intro k hk
          by_cases hkl : k < (l.getD i zeroWl).sk.length
          · by_cases h0 : 0 < k
            · exact parts_next l hc (by omega) hs' hgs i k hlt hkl h0 fun nx S hG => ⟨k + 1, by omega, by omega, hG⟩
            · exact parts_first l hc (by omega) hs' hgs i k hlt hkl h0 fun nx S hG => ⟨k + 1, by omega, by omega, hG⟩
          · have hkl' : ¬ (k : Int) < (l.getD i zeroWl).sk.length := by omega
            unfold pS
            clear hs hs' hgs hc
            repeat' (first
    | (apply Awp.sreg; (case hn => (simp only [List.length_cons, List.length_nil, Nat.reduceAdd] <;> rfl)))
    | (refine st_nil ?_)
    | (apply st_a; (case hc => rfl); (case he => (simp only [go_sem, *] <;> rfl)); (case hu => (simp only [updL_nil, updL_cons] <;> rfl)); (case hp => first | trivial | omega))
    | (apply Awp.reg; (case hn => (simp only [List.length_cons, List.length_nil, Nat.reduceAdd] <;> rfl)))
    | (refine Awp.exit ?_; try simp only [go_sem, *])
    | (apply Awp.cond; (case hc => (simp only [go_sem, *] <;> rfl)); all_goals (intro hg; (try simp only [Bool.not_true, Bool.not_false, reduceCtorEq] at hg)))
    | refine Awp.seq ?_)
            refine ⟨i + 1, by omega, by omega, ?_⟩
            (apply Ghost.mk [] []; (case hdead => rfl); (case hinj => rfl); (case hV => (simp only [go_sem, *]) <;> (repeat' (first | exact View.int (by first | rfl | omega | (simp; done) | (rw [wrap_i64] <;> (try simp only [Int.natCast_add]) <;> omega) | (simp [*]; done))))); (case hB => (simp only [go_sem, *]) <;> (repeat' (first | skip; done))))
      · have hlt' : ¬ (i : Int) < l.length := by omega
        clear hs hs' hgs hc
        repeat' (first
    | (apply Awp.sreg; (case hn => (simp only [List.length_cons, List.length_nil, Nat.reduceAdd] <;> rfl)))
    | (refine st_nil ?_)
    | (apply st_a; (case hc => rfl); (case he => (simp only [go_sem, *] <;> rfl)); (case hu => (simp only [updL_nil, updL_cons] <;> rfl)); (case hp => first | trivial))
    | (apply st_c; (case hc => (simp only [go_sem, *] <;> rfl)); (case hl => (simp only [go_sem, *] <;> rfl)); (case hn => (simp only [go_sem, *] <;> rfl)); (case hp => first | exact awake_ok | (have hXz := awake_ok; simp only [go_sem, *] at hXz; exact hXz)))
    | (refine Awp.ret ?_; try simp only [go_sem, *])
    | (refine Awp.exit ?_; try simp only [go_sem, *])
    | (apply Awp.cond; (case hc => (simp only [go_sem, *] <;> rfl)); all_goals (intro hg; (try simp only [Bool.not_true, Bool.not_false, reduceCtorEq] at hg)))
    | refine Awp.seq ?_)
        all_goals repeat' (first | exact Lower.bool (by first | rfl | (simp only [true_and, Bool.true_and, Bool.false_and, Bool.and_true, Bool.and_false, Bool.true_or, Bool.false_or, reduceIte, Bool.false_eq_true, *]; done) | (simp only [true_and, reduceIte, Bool.false_eq_true, *] <;> rfl) | (simp [true_and]; done) | (simp_all [true_and]; done) | omega))
  · have hC := g1 (fun m hm h0 => by rw [show m = n by omega]; exact ht)
    clear g1 g2
    have hteq : ((A.getD n zeroSp).b == (B.getD 0 zeroSp).a) = false := by rw [beq_eq_false_iff_ne]; exact ht
    generalize A.getD n zeroSp = u at *
    generalize B.getD 0 zeroSp = v at *
    have hC' : sps A ++ sps B = sps C := by rw [← hC]; simp [sps]
    clear hC hA0 hB0 ht hn
    refine fn_pure Try.F10 (Nat.le_of_ble_eq_true rfl) ?_; unfold Try.ac10
    repeat' (first
    | (apply Awp.sreg; (case hn => (simp only [List.length_cons, List.length_nil, Nat.reduceAdd] <;> rfl)))
    | (apply Awp.sdraw; (case hn => (simp only [List.length_cons, List.length_nil, Nat.reduceAdd] <;> rfl)))
    | (refine st_nil ?_)
    | (apply st_a; (case hc => rfl); (case he => (simp only [go_sem, *] <;> rfl)); (case hu => (simp only [updL_nil, updL_cons] <;> rfl)); (case hp => first | trivial))
    | (apply st_m; (case hc => rfl); (case hg => (simp only [go_sem, *] <;> rfl)); (case he => (intro hQz; (try simp only [wantB_t, wantB_f, Bool.and_eq_true, Bool.not_eq_true', Bool.not_true, Bool.not_false, and_true, true_and] at hQz); simp only [go_sem, *] <;> rfl)); (case hp => (intro hQz; (try simp only [wantB_t, wantB_f, Bool.and_eq_true, Bool.not_eq_true', Bool.or_eq_false_iff, decide_eq_true_eq, decide_eq_false_iff_not, beq_iff_eq, beq_eq_false_iff_ne, bne_iff_ne, bne_eq_false_iff_eq, Int.not_lt, Int.not_le, Int.ofNat_lt, Int.ofNat_le] at hQz); first | trivial)))
    | (apply st_c; (case hc => (simp only [go_sem, *] <;> rfl)); (case hl => (simp only [go_sem, *] <;> rfl)); (case hn => (simp only [go_sem, *] <;> rfl)); (case hp => first | exact c0 | (have hXz := c0; simp only [go_sem, *] at hXz; exact hXz)))
    | (refine Awp.skip ?_; try simp only [go_sem, *])
    | refine Awp.block ?_
    | (apply Awp.cond; (case hc => (simp only [go_sem, *] <;> rfl)); all_goals (intro hg; (try simp only [Bool.not_true, Bool.not_false, reduceCtorEq] at hg)))
    | refine Awp.seq ?_
    | (apply sl_a; (case hc => rfl); (case he => (simp only [go_sem, *] <;> rfl)); (case hu => (simp only [updL_nil, updL_cons] <;> rfl)); (case hl => (simp only [List.map_cons, List.map_nil] <;> rfl)); (case hp => first | trivial | ((repeat' (refine And.intro ?_ ?_)) <;> first | trivial | assumption | omega | (simp; done) | (simp; omega) | (simp [*]; done))))
    | (apply sl_ga; (case hb => rfl); (case hv => (simp only [go_sem, *] <;> rfl)); (case he => (simp only [go_sem, *] <;> rfl)); (case hu => (simp only [updL_nil, updL_cons] <;> rfl)); (case hl => (simp only [List.map_cons, List.map_nil] <;> rfl)); (case hp => first | trivial))
    | (apply sl_c; (case hc => (simp only [go_sem, *] <;> rfl)); (case hl => (simp only [go_sem, *] <;> rfl)); (case hn => (simp only [go_sem, *] <;> rfl)); (case hp => first | exact c1 | (have hXz := c1; simp only [go_sem, *] at hXz; exact hXz)); (case hd => first | exact .inl rfl | exact .inr (.v _) | exact .inr .any | exact .inr .nils); (case hm => first | decide | (simp; done)))
    | (apply sl_c; (case hc => (simp only [go_sem, *] <;> rfl)); (case hl => (simp only [go_sem, *] <;> rfl)); (case hn => (simp only [go_sem, *] <;> rfl)); (case hp => first | exact c2 | (have hXz := c2; simp only [go_sem, *] at hXz; exact hXz)); (case hd => first | exact .inl rfl | exact .inr (.v _) | exact .inr .any | exact .inr .nils); (case hm => first | decide | (simp; done)))
    | (apply sl_c; (case hc => (simp only [go_sem, *] <;> rfl)); (case hl => (simp only [go_sem, *] <;> rfl)); (case hn => (simp only [go_sem, *] <;> rfl)); (case hp => first | exact c3 | (have hXz := c3; simp only [go_sem, *] at hXz; exact hXz)); (case hd => first | exact .inl rfl | exact .inr (.v _) | exact .inr .any | exact .inr .nils); (case hm => first | decide | (simp; done)))
    | (apply sl_c; (case hc => (simp only [go_sem, *] <;> rfl)); (case hl => (simp only [go_sem, *] <;> rfl)); (case hn => (simp only [go_sem, *] <;> rfl)); (case hp => first | exact c4 | (have hXz := c4; simp only [go_sem, *] at hXz; exact hXz)); (case hd => first | exact .inl rfl | exact .inr (.v _) | exact .inr .any | exact .inr .nils); (case hm => first | decide | (simp; done)))
    | (refine sl_nil (And.intro (by first | exact drawOk_of (by decide +kernel) | (simp only [List.map_cons, List.map_nil]; exact drawOk_of (by decide +kernel)) | decide) ?_)))
    clear c0 c1 c2 c3 c4 hA hB hoA hoB hnA hnB
    refine Awp.loop (fun i : Nat => i ≤ l.length) 80 (fun i => mkS [(0, .sl (wls l)), (9, .v (.int .i64 i))] []) (fun i => l.length - i) 0 (by omega) ?_ ?_
    · clear hs hs' hgs hc
      (apply Ghost.mk [] []; (case hdead => rfl); (case hinj => rfl); (case hV => (simp only [go_sem, *]) <;> (repeat' (first | exact View.int (by first | rfl | omega | (simp; done) | (rw [wrap_i64] <;> (try simp only [Int.natCast_add]) <;> omega) | (simp [*]; done))))); (case hB => (simp only [go_sem, *]) <;> (repeat' (first | skip; done))))
    · intro i hi
      by_cases hlt : i < l.length
      · have hlt' : (i : Int) < l.length := by omega
        have hat := wls_at l i hlt
        have hz : ((l.getD i zeroWl).cells).length = 2 := rfl
        repeat' (first
    | (apply Awp.sreg; (case hn => (simp only [List.length_cons, List.length_nil, Nat.reduceAdd] <;> rfl)))
    | (refine st_nil ?_)
    | (apply st_a; (case hc => rfl); (case he => (simp only [go_sem, *] <;> rfl)); (case hu => (simp only [updL_nil, updL_cons] <;> rfl)); (case hp => first | trivial))
    | (refine Awp.skip ?_; try simp only [go_sem, *])
    | refine Awp.block ?_
    | (apply Awp.cond; (case hc => (simp only [go_sem, *] <;> rfl)); all_goals (intro hg; (try simp only [Bool.not_true, Bool.not_false, reduceCtorEq] at hg)))
    | refine Awp.seq ?_)
        refine Awp.loop (fun k : Nat => k ≤ (l.getD i zeroWl).sk.length) 90 (fun k => pS l i k) (fun k => (l.getD i zeroWl).sk.length - k) 0 (by omega) ?_ ?_
        · unfold pS
          (apply Ghost.mk [] []; (case hdead => rfl); (case hinj => rfl); (case hV => (simp only [go_sem, *]) <;> (repeat' (first | exact View.int (by first | rfl | omega | (simp; done) | (rw [wrap_i64] <;> (try simp only [Int.natCast_add]) <;> omega) | (simp [*]; done))))); (case hB => (simp only [go_sem, *]) <;> (repeat' (first | skip; done))))
        · intro k hk
          by_cases hkl : k < (l.getD i zeroWl).sk.length
          · by_cases h0 : 0 < k
            · exact parts_next l hc (by omega) hs' hgs i k hlt hkl h0 fun nx S hG => ⟨k + 1, by omega, by omega, hG⟩
            · exact parts_first l hc (by omega) hs' hgs i k hlt hkl h0 fun nx S hG => ⟨k + 1, by omega, by omega, hG⟩
          · have hkl' : ¬ (k : Int) < (l.getD i zeroWl).sk.length := by omega
            unfold pS
            clear hs hs' hgs hc
            repeat' (first
    | (apply Awp.sreg; (case hn => (simp only [List.length_cons, List.length_nil, Nat.reduceAdd] <;> rfl)))
    | (refine st_nil ?_)
    | (apply st_a; (case hc => rfl); (case he => (simp only [go_sem, *] <;> rfl)); (case hu => (simp only [updL_nil, updL_cons] <;> rfl)); (case hp => first | trivial | omega))
    | (apply Awp.reg; (case hn => (simp only [List.length_cons, List.length_nil, Nat.reduceAdd] <;> rfl)))
    | (refine Awp.exit ?_; try simp only [go_sem, *])
    | (apply Awp.cond; (case hc => (simp only [go_sem, *] <;> rfl)); all_goals (intro hg; (try simp only [Bool.not_true, Bool.not_false, reduceCtorEq] at hg)))
    | refine Awp.seq ?_)
            refine ⟨i + 1, by omega, by omega, ?_⟩
            (apply Ghost.mk [] []; (case hdead => rfl); (case hinj => rfl); (case hV => (simp only [go_sem, *]) <;> (repeat' (first | exact View.int (by first | rfl | omega | (simp; done) | (rw [wrap_i64] <;> (try simp only [Int.natCast_add]) <;> omega) | (simp [*]; done))))); (case hB => (simp only [go_sem, *]) <;> (repeat' (first | skip; done))))
      · have hlt' : ¬ (i : Int) < l.length := by omega
        clear hs hs' hgs hc
        repeat' (first
    | (apply Awp.sreg; (case hn => (simp only [List.length_cons, List.length_nil, Nat.reduceAdd] <;> rfl)))
    | (refine st_nil ?_)
    | (apply st_a; (case hc => rfl); (case he => (simp only [go_sem, *] <;> rfl)); (case hu => (simp only [updL_nil, updL_cons] <;> rfl)); (case hp => first | trivial))
    | (apply st_c; (case hc => (simp only [go_sem, *] <;> rfl)); (case hl => (simp only [go_sem, *] <;> rfl)); (case hn => (simp only [go_sem, *] <;> rfl)); (case hp => first | exact awake_ok | (have hXz := awake_ok; simp only [go_sem, *] at hXz; exact hXz)))
    | (refine Awp.ret ?_; try simp only [go_sem, *])
    | (refine Awp.exit ?_; try simp only [go_sem, *])
    | (apply Awp.cond; (case hc => (simp only [go_sem, *] <;> rfl)); all_goals (intro hg; (try simp only [Bool.not_true, Bool.not_false, reduceCtorEq] at hg)))
    | refine Awp.seq ?_)
        all_goals repeat' (first | exact Lower.bool (by first | rfl | (simp only [true_and, Bool.true_and, Bool.false_and, Bool.and_true, Bool.and_false, Bool.true_or, Bool.false_or, reduceIte, Bool.false_eq_true, *]; done) | (simp only [true_and, reduceIte, Bool.false_eq_true, *] <;> rfl) | (simp [true_and]; done) | (simp_all [true_and]; done) | omega))
end Go.Proofs
end
