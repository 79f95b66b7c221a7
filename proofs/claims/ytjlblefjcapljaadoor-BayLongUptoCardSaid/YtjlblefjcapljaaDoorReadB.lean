import Derived.Test.YtjlblefjcapljaaDoorRead
section
set_option linter.unusedVariables false
set_option linter.unusedSimpArgs false
namespace Go.Proofs
open Go Go.Ab Go.ChangeShapes Go.WideShapes Go.ChangeAt Go.RowKit
set_option maxRecDepth 100000
set_option linter.unusedSimpArgs false
set_option linter.unusedVariables false
section
variable {H : Type} {enc : TypeId × Value → H} {w : World} {spare : Nat → Bool} {held : Bool} {r : Reach} {b0 : Nat} {v : Value} {d : DataW H} {p : List MemPlace}
theorem arg_stys (hval : Value.okWide Tryd.prog w r b0 23 v) (hd : DataW.Trod enc Tryd.prog w 0 spare held 23 v d p) : ∃ l : List Sty, PureV (fun g => g < w.heap.size ∧ True) w (.sl (stys l)) v := by
  obtain ⟨a, hs, hp⟩ := arg_slice 4 Tryd.underlying23 (by kernel_rfl) hval hd
  obtain ⟨l, e⟩ := shape_stys hs
  obtain rfl : a = .sl (stys l) := by simpa using e
  exact ⟨l, hp⟩
end
end Go.Proofs
end
