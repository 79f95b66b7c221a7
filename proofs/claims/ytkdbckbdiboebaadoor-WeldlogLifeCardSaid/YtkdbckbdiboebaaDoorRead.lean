import Derived.Test.YtkdbckbdiboebaaDoorWalkA
import Derived.Test.YtkdbckbdiboebaaDoorLayB
import Derived.Test.YtkdbckbdiboebaaDoorCards
import Derived.Test.YtkdbckbdiboebaaDoorTie
import Derived.WalkKit
import Derived.ProofKit
import Derived.OpenShut
import Derived.Deep.DeepHandedRow
import Derived.Lib.LaidTab
section
set_option linter.unusedVariables false
set_option linter.unusedSimpArgs false
namespace Go.Proofs
open Go Go.Ab Go.ChangeShapes Go.WideShapes Go.ChangeAt Go.RowKit
set_option maxRecDepth 100000
theorem rest_laid : laidOutB Tryd.prog = true := by kernel_rfl
theorem rest_own : ownKnob Tryd.prog.godebug = none := by kernel_rfl
theorem shape_ints {P : Program} {n : Nat} {t : TypeId} {qs : List AV} (hu : P.underlying t = some (.slice 3)) (h3 : P.underlying 3 = some (.int .i64)) (h : Shape P (n + 2) t qs) : ∃ l, qs = [.sl (ints l)] := by
  unfold Shape at h
  rw [hu] at h
  obtain ⟨es, rfl, _, he⟩ := h
  obtain ⟨l, rfl⟩ := map_shape (f := fun i : Int => [AV.v (.int .i64 i)]) fun r hr => by
    have := he r hr
    unfold Shape at this
    rw [h3] at this
    obtain ⟨i, rfl, _⟩ := this
    exact ⟨i, rfl⟩
  exact ⟨l, rfl⟩
theorem shape_weld {qs : List AV} (h : Shape Tryd.prog 3 26 qs) : ∃ w : Wd, AV.agg qs = w.av := by
  unfold Shape at h
  rw [Tryd.underlying26] at h
  simp only [List.map_cons, List.map_nil, FieldsShape] at h
  obtain ⟨_, _, rfl, h0, _, _, rfl, h1, _, _, rfl, h2, _, _, rfl, h3, _, _, rfl, h4, _, _, rfl, h5, _, _, rfl, h6, _, _, rfl, h7, rfl⟩ := h
  obtain ⟨l, rfl⟩ := shape_ints Tryd.underlying24 Tryd.underlying3 h7
  unfold Shape at h0 h1 h2 h3 h4 h5 h6
  simp only [Tryd.underlying3, Tryd.underlying9] at h0 h1 h2 h3 h4 h5 h6
  obtain ⟨s0, rfl, _⟩ := h0
  obtain ⟨n1, rfl, _⟩ := h1
  obtain ⟨n2, rfl, _⟩ := h2
  obtain ⟨s3, rfl, _⟩ := h3
  obtain ⟨s4, rfl, _⟩ := h4
  obtain ⟨n5, rfl, _⟩ := h5
  obtain ⟨n6, rfl, _⟩ := h6
  exact ⟨⟨s0, n1, n2, s3, s4, n5, n6, l⟩, rfl⟩
theorem arg_weld {H : Type} {enc : TypeId × Value → H} {w : World} {spare : Nat → Bool} {held : Bool} {r : Reach} {b0 : Nat} {v : Value} {d : DataW H} {p : List MemPlace}
    (hval : Value.okWide Tryd.prog w r b0 26 v) (hd : DataW.Trod enc Tryd.prog w 0 spare held 26 v d p) : ∃ wd : Wd, PureV (fun g => g < w.heap.size ∧ True) w wd.av v := by
  obtain ⟨qs, hs, hp⟩ := arg_struct 3 Tryd.underlying26 (by kernel_rfl) hval hd
  obtain ⟨wd, e⟩ := shape_weld hs
  exact ⟨wd, e ▸ hp⟩
open YtkdbckbdiboebaaDoor in
/-- The settled world, the two tables of unicode/utf8 as their initialisers lay them. -/
noncomputable def laidWorld (os : Os) : World :=
  let w0 := World.holding Tryd.prog os ⟨#[], #[], []⟩
  let put (h : Array Obj) (g : Nat) (cs : Array Value) : Array Obj := h.modify g fun
    | .cells _ t frozen => .cells cs t frozen
    | o => o
  let h1 := put w0.heap 1 (laidVals 9 Rows.laid_unicode_utf8_first).toArray
  let h2 := put h1 2 (laidVals 9 (Rows.laid_unicode_utf8_acceptRanges (H := Unit))).toArray
  { w0 with heap := h2 }
open YtkdbckbdiboebaaDoor in
theorem laid_met0 (os : Os) (args : Array Value) : laidMet Tryd.prog Rows.weldlogChecksRow.laid ((laidWorld os).forCall (fun _ _ => 0) ⟨#[], args, []⟩).memory :=
  laidMet_of_run' 8 (by kernel_rfl) (by kernel_rfl)
end Go.Proofs
end
