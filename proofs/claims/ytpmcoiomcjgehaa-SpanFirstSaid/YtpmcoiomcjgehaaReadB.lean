import Derived.Test.YtpmcoiomcjgehaaRead
import Derived.Test.YtpmcoiomcjgehaaLawG
section
set_option linter.unusedVariables false
set_option linter.unusedSimpArgs false
namespace Go.Proofs
open Go Go.Ab Go.ChangeShapes Go.WideShapes Go.ChangeAt Go.RowKit
set_option maxRecDepth 100000
set_option linter.unusedSimpArgs false
set_option linter.unusedVariables false
theorem shape_first {qs : List AV} (h : Shape Try.prog 4 37 qs) : ∃ (l : List Sp) (f n e : Int), AV.agg qs = fsAv l f n e ∧ InR l ∧ (-9223372036854775808 ≤ f ∧ f ≤ 9223372036854775807) ∧ (0 ≤ n ∧ n ≤ 65535) ∧ (0 ≤ e ∧ e ≤ 65535) := by
  unfold Shape at h
  rw [Try.underlying37] at h
  simp only [List.map_cons, List.map_nil, FieldsShape] at h
  obtain ⟨_, _, rfl, h0, _, _, rfl, h1, _, _, rfl, h2, _, _, rfl, h3, rfl⟩ := h
  obtain ⟨l, rfl, hl⟩ := shape_sps h0
  unfold Shape at h1 h2 h3
  simp only [Try.underlying3, Try.underlying35] at h1 h2 h3
  obtain ⟨x1, rfl, w1⟩ := h1
  obtain ⟨x2, rfl, w2⟩ := h2
  obtain ⟨x3, rfl, w3⟩ := h3
  exact ⟨l, x1, x2, x3, rfl, hl, i64_in w1, u16_in w2, u16_in w3⟩
section
variable {H : Type} {enc : TypeId × Value → H} {w : World} {spare : Nat → Bool} {held : Bool} {r : Reach} {b0 : Nat} {v : Value} {d : DataW H} {p : List MemPlace}
theorem arg_first (hval : Value.okWide Try.prog w r b0 37 v) (hd : DataW.Trod enc Try.prog w 0 spare held 37 v d p) : ∃ (l : List Sp) (f n e : Int), InR l ∧ (-9223372036854775808 ≤ f ∧ f ≤ 9223372036854775807) ∧ (0 ≤ n ∧ n ≤ 65535) ∧ (0 ≤ e ∧ e ≤ 65535) ∧ PureV (fun g => g < w.heap.size ∧ True) w (fsAv l f n e) v := by
  obtain ⟨qs, hs, hp⟩ := arg_struct 4 Try.underlying37 (by kernel_rfl) hval hd
  obtain ⟨l, f, n, e, h, h1, h2, h3, h4⟩ := shape_first hs
  exact ⟨l, f, n, e, h1, h2, h3, h4, h ▸ hp⟩
end
end Go.Proofs
end
