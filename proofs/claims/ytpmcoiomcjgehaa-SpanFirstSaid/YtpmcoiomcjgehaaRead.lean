import Derived.Test.YtpmcoiomcjgehaaWalkD
import Derived.Test.YtpmcoiomcjgehaaLayB
import Derived.Test.YtpmcoiomcjgehaaRows
import Derived.WalkKit
import Derived.ProofKit
import Derived.OpenShut
import Derived.DataShut
import Derived.Deep.DeepHandedRow
import Derived.Lib.LaidTab
section
set_option linter.unusedVariables false
set_option linter.unusedSimpArgs false
namespace Go.Proofs
open Go Go.Ab Go.ChangeShapes Go.WideShapes Go.ChangeAt Go.RowKit
set_option maxRecDepth 100000
set_option linter.unusedSimpArgs false
set_option linter.unusedVariables false
theorem rest_laid : laidOutB Try.prog = true := by kernel_rfl
theorem rest_own : ownKnob Try.prog.godebug = none := by kernel_rfl
theorem i64_in {n : Int} (h : (Lit.int .i64 n).wf = true) : -9223372036854775808 ≤ n ∧ n ≤ 9223372036854775807 := by
  have h := (Lit.wf_int_iff .i64 n).1 h
  have e1 : IntKind.i64.min = -9223372036854775808 := by decide +kernel
  have e2 : IntKind.i64.max = 9223372036854775807 := by decide +kernel
  omega
theorem u16_in {n : Int} (h : (Lit.int .u16 n).wf = true) : 0 ≤ n ∧ n ≤ 65535 := by
  have h := (Lit.wf_int_iff .u16 n).1 h
  have e1 : IntKind.u16.min = 0 := by decide +kernel
  have e2 : IntKind.u16.max = 65535 := by decide +kernel
  omega
def okSp (s : Sp) : Prop := -9223372036854775808 ≤ s.a ∧ s.b ≤ 9223372036854775807
theorem map_shapeP {α : Type} {f : α → List AV} {Q : α → Prop} : ∀ {es : List (List AV)}, (∀ r ∈ es, ∃ x : α, r = f x ∧ Q x) → ∃ l : List α, es = l.map f ∧ ∀ x ∈ l, Q x
  | [], _ => ⟨[], rfl, by simp⟩
  | r :: es, h => by
    obtain ⟨x, hx, hq⟩ := h r (by simp)
    obtain ⟨l, hl, hQ⟩ := map_shapeP (es := es) fun r' hr => h r' (by simp [hr])
    refine ⟨x :: l, by rw [hx, hl]; rfl, fun y hy => ?_⟩
    rcases List.mem_cons.1 hy with rfl | hy
    · exact hq
    · exact hQ y hy
theorem shape_sp {qs : List AV} (h : Shape Try.prog 2 29 qs) : ∃ x : Sp, AV.agg qs = x.av ∧ okSp x := by
  unfold Shape at h
  rw [Try.underlying29] at h
  simp only [List.map_cons, List.map_nil, FieldsShape] at h
  obtain ⟨_, _, rfl, h0, _, _, rfl, h1, rfl⟩ := h
  unfold Shape at h0 h1
  simp only [Try.underlying3] at h0 h1
  obtain ⟨x0, rfl, w0⟩ := h0
  obtain ⟨x1, rfl, w1⟩ := h1
  exact ⟨⟨x0, x1⟩, rfl, (i64_in w0).1, (i64_in w1).2⟩
theorem shape_sps {qs : List AV} (h : Shape Try.prog 3 22 qs) : ∃ l : List Sp, qs = [.sl (sps l)] ∧ InR l := by
  unfold Shape at h
  rw [Try.underlying22] at h
  obtain ⟨es, rfl, _, he⟩ := h
  obtain ⟨l, rfl, hl⟩ := map_shapeP (f := Sp.cells) (Q := okSp) fun q hq => by
    obtain ⟨x, hx, hw⟩ := shape_sp (he q hq)
    refine ⟨x, ?_, hw⟩
    have : AV.agg q = .agg x.cells := hx
    injection this
  exact ⟨l, rfl, hl⟩
section
variable {H : Type} {enc : TypeId × Value → H} {w : World} {spare : Nat → Bool} {held : Bool} {r : Reach} {b0 : Nat} {v : Value} {d : DataW H} {p : List MemPlace}
theorem arg_sps (hval : Value.okWide Try.prog w r b0 22 v) (hd : DataW.Trod enc Try.prog w 0 spare held 22 v d p) : ∃ l : List Sp, InR l ∧ PureV (fun g => g < w.heap.size ∧ True) w (.sl (sps l)) v := by
  obtain ⟨a, hs, hp⟩ := arg_slice 3 Try.underlying22 (by kernel_rfl) hval hd
  obtain ⟨l, e, hl⟩ := shape_sps hs
  obtain rfl : a = .sl (sps l) := by simpa using e
  exact ⟨l, hl, hp⟩
theorem arg_sp (hval : Value.okWide Try.prog w r b0 29 v) (hd : DataW.Trod enc Try.prog w 0 spare held 29 v d p) : ∃ x : Sp, okSp x ∧ PureV (fun g => g < w.heap.size ∧ True) w x.av v := by
  obtain ⟨qs, hs, hp⟩ := arg_struct 2 Try.underlying29 (by kernel_rfl) hval hd
  obtain ⟨x, e, hx⟩ := shape_sp hs
  exact ⟨x, hx, e ▸ hp⟩
end
/-- The settled world. -/
noncomputable def laidWorld (os : Os) : World := World.holding Try.prog os ⟨#[], #[], []⟩
end Go.Proofs
end
