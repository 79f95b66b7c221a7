import Derived.Test.YtkdbckbdiboebaaDoorLifeC
import Derived.Test.YtkdbckbdiboebaaDoorRead
section
set_option linter.unusedVariables false
set_option linter.unusedSimpArgs false
namespace Go.Proofs
open Go Go.Ab Go.ChangeShapes Go.WideShapes Go.ChangeAt Go.RowKit
set_option maxRecDepth 100000
theorem shape_seam {qs : List AV} (h : Shape Tryd.prog 3 23 qs) : ∃ x : Sm, AV.agg qs = x.av := by
  unfold Shape at h
  rw [Tryd.underlying23] at h
  simp only [List.map_cons, List.map_nil, FieldsShape] at h
  obtain ⟨_, _, rfl, h0, _, _, rfl, h1, _, _, rfl, h2, _, _, rfl, h3, _, _, rfl, h4, _, _, rfl, h5, rfl⟩ := h
  unfold Shape at h0 h1 h2 h3 h4 h5
  simp only [Tryd.underlying3, Tryd.underlying9] at h0 h1 h2 h3 h4 h5
  obtain ⟨x0, rfl, _⟩ := h0
  obtain ⟨x1, rfl, _⟩ := h1
  obtain ⟨x2, rfl, _⟩ := h2
  obtain ⟨x3, rfl, _⟩ := h3
  obtain ⟨x4, rfl, _⟩ := h4
  obtain ⟨x5, rfl, _⟩ := h5
  exact ⟨⟨x0, x1, x2, x3, x4, x5⟩, rfl⟩
theorem arg_seam {H : Type} {enc : TypeId × Value → H} {w : World} {spare : Nat → Bool} {held : Bool} {r : Reach} {b0 : Nat} {v : Value} {d : DataW H} {p : List MemPlace}
    (hval : Value.okWide Tryd.prog w r b0 23 v) (hd : DataW.Trod enc Tryd.prog w 0 spare held 23 v d p) : ∃ x : Sm, PureV (fun g => g < w.heap.size ∧ True) w x.av v := by
  obtain ⟨qs, hs, hp⟩ := arg_struct 3 Tryd.underlying23 (by kernel_rfl) hval hd
  obtain ⟨x, e⟩ := shape_seam hs
  exact ⟨x, e ▸ hp⟩
theorem shape_test {qs : List AV} (h : Shape Tryd.prog 2 41 qs) : ∃ x : Ts, AV.agg qs = x.av := by
  unfold Shape at h
  rw [Tryd.underlying41] at h
  simp only [List.map_cons, List.map_nil, FieldsShape] at h
  obtain ⟨_, _, rfl, h0, _, _, rfl, h1, rfl⟩ := h
  unfold Shape at h0 h1
  simp only [Tryd.underlying3, Tryd.underlying4] at h0 h1
  obtain ⟨x0, rfl, _⟩ := h0
  obtain ⟨x1, rfl⟩ := h1
  exact ⟨⟨x0, x1⟩, rfl⟩
theorem arg_tests {H : Type} {enc : TypeId × Value → H} {w : World} {spare : Nat → Bool} {held : Bool} {r : Reach} {b0 : Nat} {v : Value} {d : DataW H} {p : List MemPlace}
    (hval : Value.okWide Tryd.prog w r b0 44 v) (hd : DataW.Trod enc Tryd.prog w 0 spare held 44 v d p) : ∃ l : List Ts, PureV (fun g => g < w.heap.size ∧ True) w (.sl (tss l)) v := by
  obtain ⟨a, hs, hp⟩ := arg_slice 3 Tryd.underlying44 (by kernel_rfl) hval hd
  unfold Shape at hs
  rw [Tryd.underlying44] at hs
  obtain ⟨es, e, _, he⟩ := hs
  obtain rfl : a = .sl es := by simpa using e
  obtain ⟨l, rfl⟩ := map_shape (f := fun x : Ts => [AV.v (.int .i64 x.method), .v (.bool x.pass)]) fun q hq => by
    obtain ⟨x, hx⟩ := shape_test (he q hq)
    refine ⟨x, ?_⟩
    have : AV.agg q = .agg [.v (.int .i64 x.method), .v (.bool x.pass)] := hx
    injection this
  exact ⟨l, hp⟩
end Go.Proofs
end
