import Derived.Test.YtkdbckbdiboebaaDoorWalkC
import Derived.Test.YtkdbckbdiboebaaDoorRead
section
set_option linter.unusedVariables false
set_option linter.unusedSimpArgs false
namespace Go.Proofs
open Go Go.Ab Go.ChangeShapes Go.WideShapes Go.ChangeAt Go.RowKit
set_option maxRecDepth 100000
theorem shape_seam {qs : List AV} (h : Shape Tryd.prog 3 23 qs) : ∃ x : Sm, AV.agg qs = x.av := by
  unfold Shape at h
  rw [Tryd.underlying23] at h
  simp only [List.map_cons, List.map_nil, FieldsShape] at h
  obtain ⟨_, _, rfl, h0, _, _, rfl, h1, _, _, rfl, h2, _, _, rfl, h3, _, _, rfl, h4, _, _, rfl, h5, rfl⟩ := h
  unfold Shape at h0 h1 h2 h3 h4 h5
  simp only [Tryd.underlying3, Tryd.underlying9] at h0 h1 h2 h3 h4 h5
  obtain ⟨x0, rfl, _⟩ := h0
  obtain ⟨x1, rfl, _⟩ := h1
  obtain ⟨x2, rfl, _⟩ := h2
  obtain ⟨x3, rfl, _⟩ := h3
  obtain ⟨x4, rfl, _⟩ := h4
  obtain ⟨x5, rfl, _⟩ := h5
  exact ⟨⟨x0, x1, x2, x3, x4, x5⟩, rfl⟩
theorem arg_seam {H : Type} {enc : TypeId × Value → H} {w : World} {spare : Nat → Bool} {held : Bool} {r : Reach} {b0 : Nat} {v : Value} {d : DataW H} {p : List MemPlace}
    (hval : Value.okWide Tryd.prog w r b0 23 v) (hd : DataW.Trod enc Tryd.prog w 0 spare held 23 v d p) : ∃ x : Sm, PureV (fun g => g < w.heap.size ∧ True) w x.av v := by
  obtain ⟨qs, hs, hp⟩ := arg_struct 3 Tryd.underlying23 (by kernel_rfl) hval hd
  obtain ⟨x, e⟩ := shape_seam hs
  exact ⟨x, e ▸ hp⟩
theorem shape_work {qs : List AV} (h : Shape Tryd.prog 3 36 qs) : ∃ x : Wk, AV.agg qs = x.av := by
  unfold Shape at h
  rw [Tryd.underlying36] at h
  simp only [List.map_cons, List.map_nil, FieldsShape] at h
  obtain ⟨_, _, rfl, h0, _, _, rfl, h1, _, _, rfl, h2, rfl⟩ := h
  unfold Shape at h0 h1 h2
  simp only [Tryd.underlying3, Tryd.underlying9] at h0 h1 h2
  obtain ⟨x0, rfl, _⟩ := h0
  obtain ⟨x1, rfl, _⟩ := h1
  obtain ⟨x2, rfl, _⟩ := h2
  exact ⟨⟨x0, x1, x2⟩, rfl⟩
theorem arg_work {H : Type} {enc : TypeId × Value → H} {w : World} {spare : Nat → Bool} {held : Bool} {r : Reach} {b0 : Nat} {v : Value} {d : DataW H} {p : List MemPlace}
    (hval : Value.okWide Tryd.prog w r b0 36 v) (hd : DataW.Trod enc Tryd.prog w 0 spare held 36 v d p) : ∃ x : Wk, PureV (fun g => g < w.heap.size ∧ True) w x.av v := by
  obtain ⟨qs, hs, hp⟩ := arg_struct 3 Tryd.underlying36 (by kernel_rfl) hval hd
  obtain ⟨x, e⟩ := shape_work hs
  exact ⟨x, e ▸ hp⟩
theorem shape_test {qs : List AV} (h : Shape Tryd.prog 3 41 qs) : ∃ x : Ts, AV.agg qs = x.av := by
  unfold Shape at h
  rw [Tryd.underlying41] at h
  simp only [List.map_cons, List.map_nil, FieldsShape] at h
  obtain ⟨_, _, rfl, h0, _, _, rfl, h1, rfl⟩ := h
  unfold Shape at h0 h1
  simp only [Tryd.underlying3, Tryd.underlying4] at h0 h1
  obtain ⟨x0, rfl, _⟩ := h0
  obtain ⟨x1, rfl⟩ := h1
  exact ⟨⟨x0, x1⟩, rfl⟩
theorem arg_test {H : Type} {enc : TypeId × Value → H} {w : World} {spare : Nat → Bool} {held : Bool} {r : Reach} {b0 : Nat} {v : Value} {d : DataW H} {p : List MemPlace}
    (hval : Value.okWide Tryd.prog w r b0 41 v) (hd : DataW.Trod enc Tryd.prog w 0 spare held 41 v d p) : ∃ x : Ts, PureV (fun g => g < w.heap.size ∧ True) w x.av v := by
  obtain ⟨qs, hs, hp⟩ := arg_struct 3 Tryd.underlying41 (by kernel_rfl) hval hd
  obtain ⟨x, e⟩ := shape_test hs
  exact ⟨x, e ▸ hp⟩
end Go.Proofs
end
