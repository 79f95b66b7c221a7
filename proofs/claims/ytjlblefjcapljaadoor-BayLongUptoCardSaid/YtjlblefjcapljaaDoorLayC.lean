import Derived.Test.YtjlblefjcapljaaDoorLayB
import Derived.Shelf.SlicesE.Clone
section
set_option linter.unusedVariables false
set_option linter.unusedSimpArgs false
namespace Go.Ab
open Go.Shelf Go.RowKit Go.Lib Go.Proofs
variable {P : Program} {ρ : Ren}

set_option maxHeartbeats 2000000 in
set_option maxRecDepth 100000 in
theorem clone_zero (L : SlLaysE0.n41 P ρ) (i0 : TypeInfo) (z : Value) (size bytes : Nat) (hi : P.info? (ρ.t 23) = some i0) (hz0 : i0.zero = some z) (hz1 : i0.size = size) (hz2 : i0.bytes = bytes) (hzs : z.cells.size = size) (hsz : 0 < size)
    (z23 : ∀ w, (Go.sizeOf (ρ.t 23)).run P w = .ok size w) (a : Addr) (c : Nat) (w : World) :
    Calls P (ρ.f 41) #[.slice (some a) 0 c] w fun e w' => ∃ v', e = .returned v' ∧ w'.ownsRow w.heap.size (ρ.t 23) size v' 0 [] ∧ Below w.heap.size w w' := by
  have mixed := L.mixed; have t4 := L.t4; have a4 := L.a4; have z4 := L.z4; have v4 := L.v4; have t22 := L.t22; have a22 := L.a22; have z22 := L.z22; have v22 := L.v22
  have q22 : ∀ (w : World) (a : Option Addr) (n c n' c' : Nat), (binOp .eql (ρ.t 22) (.slice a n c) (.slice none n' c')).run P w = .ok (.bool a.isNone) w := fun w a n c n' c' => Lib.run_eql_slice_nil w _ _ a n c n' c' L.t22
  have u22 : ∀ w, Sem.run P (underlying (ρ.t 22)) w = .ok (TypeDesc.slice (ρ.t 23)) w := run_underlying t22
  obtain ⟨_, _, FG⟩ := L.f41
  go_enter FG, SlBodyN.n41_ntmps ρ
  go_wp2_with (at_builtin; refine wpList_append_own _ rfl _ _ (ρ.t 22) rfl w.heap.size (ρ.t 23) i0 z size bytes t22 hi hz0 hz1 hz2 hzs hsz _ _ _ rfl (World.ownsRow_made w #[] 0 (Nat.le_refl _) (Nat.zero_le _) (by simp)) a 0 c [] rfl ?qc1 ?qc2 ?qc3 ?qc4 ?qc5 ?qc6 ?_)
  case qc1 => simp
  case qc2 => intro j u hj; simp at hj
  case qc3 => intro u hu; cases hu
  case qc4 => unfold maxLen; omega
  case qc5 => omega
  case qc6 => simp
  intro v' w1 hown hgrow hnil
  go_wp2
  go_ret
  refine ⟨v', rfl, by simpa using hown, ?_⟩
  exact ((Below.refl _ w).alloc (Nat.le_refl _) _).grown hgrow (by simp) (by intro k hk; simp [Value.ownBlock] at hk; omega)

theorem getD_flat (es : List (List AV)) (f : Nat → Nat → Value) (sz n : Nat) (hn : n = es.length) (i j : Nat) (hi : i < n) (hj : j < sz) :
    cv ((List.range (n * sz)).map fun k => f (k / sz) (k % sz)) (i * sz + j) = f i j := by
  have h1 : i * sz + j < n * sz := by
    calc i * sz + j < i * sz + sz := by omega
      _ = (i + 1) * sz := by rw [Nat.add_mul]; omega
      _ ≤ n * sz := Nat.mul_le_mul_right _ (by omega)
  have h2 : (i * sz + j) / sz = i := by rw [Nat.add_comm, Nat.add_mul_div_right _ _ (by omega), Nat.div_eq_of_lt hj, Nat.zero_add]
  have h3 : (i * sz + j) % sz = j := by rw [Nat.add_comm, Nat.add_mul_mod_self_right, Nat.mod_eq_of_lt hj]
  simp [cv, List.getD_eq_getElem?_getD, h1, h2, h3]

theorem clone_of (L : SlLaysE0.n41 P ρ) (hcall : Callable P (ρ.f 41)) (i0 : TypeInfo) (z : Value) (size bytes : Nat) (hi : P.info? (ρ.t 23) = some i0) (hz0 : i0.zero = some z) (hz1 : i0.size = size) (hz2 : i0.bytes = bytes) (hzs : z.cells.size = size) (hsz : 0 < size)
    (z23 : ∀ w, (Go.sizeOf (ρ.t 23)).run P w = .ok size w) (es : List (List AV)) (hes : ∀ x ∈ es, x.length = size) (hbig : es.length * bytes ≤ 140737488355328) : PureOwn P (ρ.f 41) [.sl es] es size (ρ.t 23) := by
  refine ⟨hcall, fun ok w cs ⟨hlen, hv⟩ => ?_⟩
  match cs, hlen with
  | [c], _ =>
  have h1 := hv 0 (by simp)
  simp only [av_zero, cv, List.getD_cons_zero] at h1
  have tail : ∀ w' v' news, w'.ownsRow w.heap.size (ρ.t 23) size v' es.length news → Below w.heap.size w w' → (∀ u ∈ news, u.oneCell' = true) → (∀ i j, i < es.length → j < size → PureV (fun g => g < w.heap.size ∧ ok g) w (av (es.getD i []) j) (cv news (i * size + j))) →
      ∃ c, Ending.returned v' = .returned c ∧ Keeps w w' ∧ (∃ a n cap, c = .slice a n cap) ∧ (∃ xs, RowFits (fun g => g < w'.heap.size ∧ (ok g ∨ w.heap.size ≤ g) ∧ blkOf c ≠ some g) w' es size (ρ.t 23) c xs) ∧ ∀ g, blkOf c = some g → w.heap.size ≤ g := by
    intro w' v' news ho hb hone hp
    have hblk : ∀ g, blkOf v' = some g → w.heap.size ≤ g := by
      intro g hg
      rcases ho.2 with ⟨h, _⟩ | ⟨g', cap, cur, h, hge, _⟩
      · rw [h] at hg; simp [blkOf] at hg
      · rw [h] at hg
        simp only [blkOf] at hg
        split at hg
        · cases hg
        · simp only [Option.some.injEq] at hg; omega
    refine ⟨v', rfl, ⟨hb.os, hb.tape, hb.output, hb.size, hb.block⟩, ?_, ⟨news, hes, hsz, RowRep.of_owns ho, hone, fun i j hi hj => (hp i j hi hj).mono fun g hg => ⟨⟨Nat.lt_of_lt_of_le hg.1 hb.size, .inl hg.2, fun e => ?_⟩, hb.block g hg.1⟩⟩, hblk⟩
    · rcases ho.2 with ⟨h, _⟩ | ⟨g, cap, cur, h, _⟩
      · exact ⟨_, _, _, h⟩
      · exact ⟨_, _, _, h⟩
    · have := hblk g e; omega
  cases h1 with
  | slE a cap hc =>
    cases a with
    | none =>
      refine (AnyE.slices_Clone_nil L 0 cap w).mono fun e w' ⟨he, hw⟩ => ?_
      subst he; subst hw
      exact tail w' _ [] ⟨by simp, .inl ⟨rfl, rfl⟩⟩ (Below.refl _ _) (by simp) (fun i j hi => by simp at hi)
    | some a =>
      refine (clone_zero L i0 z size bytes hi hz0 hz1 hz2 hzs hsz z23 a cap w).mono fun e w' ⟨v', he, ho, hb⟩ => ?_
      subst he
      exact tail w' v' [] ho hb (by simp) (fun i j hi => by simp at hi)
  | slC _ g off cap sz f hc hm h0 hne hz hst hcell hr =>
    have hsz' : sz = size := by
      obtain ⟨x, hx⟩ := List.exists_mem_of_ne_nil _ hne
      exact (hz x hx).symm.trans (hes x hx)
    subst hsz'
    have hat := getD_flat es f sz es.length rfl
    have dm : ∀ k, k < es.length * sz → k / sz < es.length ∧ k % sz < sz := fun k hk => ⟨(Nat.div_lt_iff_lt_mul hsz).2 hk, Nat.mod_lt _ hsz⟩
    refine (AnyE.slices_Clone L i0 z sz bytes hi hz0 hz1 hz2 hzs hsz z23 g off es.length cap ((List.range (es.length * sz)).map fun k => f (k / sz) (k % sz)) w (by simp) (by omega) hbig (fun j u hj => ?_) (fun u hu => ?_)).mono fun e w' ⟨v', he, ho, _, hb⟩ => ?_
    · rw [List.getElem?_map] at hj
      by_cases hjl : j < es.length * sz
      · rw [List.getElem?_range hjl] at hj
        simp only [Option.map_some, Option.some.injEq] at hj
        subst hj
        obtain ⟨d1, d2⟩ := dm j hjl
        have := (hcell (j / sz) (j % sz) d1 d2).1
        rwa [show j / sz * sz + j % sz = j by rw [Nat.mul_comm]; exact Nat.div_add_mod j sz] at this
      · rw [List.getElem?_eq_none (by simpa using hjl)] at hj
        simp at hj
    · simp only [List.mem_map, List.mem_range] at hu
      obtain ⟨k, hk, rfl⟩ := hu
      obtain ⟨d1, d2⟩ := dm k hk
      exact (hcell _ _ d1 d2).2
    · subst he
      refine tail w' v' _ ho hb (fun u hu => ?_) (fun i j hi hj => ?_)
      · simp only [List.mem_map, List.mem_range] at hu
        obtain ⟨k, hk, rfl⟩ := hu
        obtain ⟨d1, d2⟩ := dm k hk
        exact (hcell _ _ d1 d2).2
      · rw [hat i j hi hj]
        exact hr i j hi hj
end Go.Ab
end
