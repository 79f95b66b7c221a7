import Derived.Test.YtjlblefjcapljaaDoorWalkB
import Derived.Test.YtjlblefjcapljaaDoorLayB
import Derived.Test.YtjlblefjcapljaaDoorCards
import Derived.Test.YtjlblefjcapljaaDoorTie
import Derived.WalkKit
import Derived.ProofKit
import Derived.OpenShut
import Derived.Deep.DeepHandedRow
import Derived.Lib.LaidTab
section
set_option linter.unusedVariables false
set_option linter.unusedSimpArgs false
namespace Go.Proofs
open Go Go.Ab Go.ChangeShapes Go.WideShapes Go.ChangeAt Go.RowKit
set_option maxRecDepth 100000
theorem rest_laid : laidOutB Tryd.prog = true := by kernel_rfl
theorem rest_own : ownKnob Tryd.prog.godebug = none := by kernel_rfl
theorem shape_bay {qs : List AV} (h : Shape Tryd.prog 2 41 qs) : ∃ x : By, AV.agg qs = x.av := by
  unfold Shape at h
  rw [Tryd.underlying41] at h
  simp only [List.map_cons, List.map_nil, FieldsShape] at h
  obtain ⟨_, _, rfl, h0, _, _, rfl, h1, _, _, rfl, h2, rfl⟩ := h
  unfold Shape at h0 h1 h2
  simp only [Tryd.underlying3, Tryd.underlying9] at h0 h1 h2
  obtain ⟨x0, rfl, _⟩ := h0
  obtain ⟨x1, rfl, _⟩ := h1
  obtain ⟨x2, rfl, _⟩ := h2
  exact ⟨⟨x0, x1, x2⟩, rfl⟩
theorem shape_sty {qs : List AV} (h : Shape Tryd.prog 3 31 qs) : ∃ x : Sty, AV.agg qs = x.av := by
  unfold Shape at h
  rw [Tryd.underlying31] at h
  simp only [List.map_cons, List.map_nil, FieldsShape] at h
  obtain ⟨_, _, rfl, h0, _, _, rfl, h1, _, _, rfl, h2, _, _, rfl, h3, _, _, rfl, h4, _, _, rfl, h5, rfl⟩ := h
  unfold Shape at h0 h1 h2 h3 h4 h5
  simp only [Tryd.underlying3, Tryd.underlying9, Tryd.underlying27, Tryd.underlying29, List.map_cons, List.map_nil, FieldsShape] at h0 h1 h2 h3 h4 h5
  obtain ⟨_, _, rfl, h20, _, _, rfl, h21, rfl⟩ := h2
  obtain ⟨_, _, rfl, h50, _, _, rfl, h51, rfl⟩ := h5
  unfold Shape at h20 h21 h50 h51
  simp only [Tryd.underlying3] at h20 h21 h50 h51
  obtain ⟨x0, rfl, _⟩ := h0
  obtain ⟨x1, rfl, _⟩ := h1
  obtain ⟨x2, rfl, _⟩ := h20
  obtain ⟨x3, rfl, _⟩ := h21
  obtain ⟨x4, rfl, _⟩ := h3
  obtain ⟨x5, rfl, _⟩ := h4
  obtain ⟨x6, rfl, _⟩ := h50
  obtain ⟨x7, rfl, _⟩ := h51
  exact ⟨⟨x0, x1, x2, x3, x4, x5, x6, x7⟩, rfl⟩
theorem shape_bys {qs : List AV} (h : Shape Tryd.prog 3 22 qs) : ∃ l : List By, qs = [.sl (bys l)] := by
  unfold Shape at h
  rw [Tryd.underlying22] at h
  obtain ⟨es, rfl, _, he⟩ := h
  obtain ⟨l, rfl⟩ := map_shape (f := By.cells) fun q hq => by
    obtain ⟨x, hx⟩ := shape_bay (he q hq)
    refine ⟨x, ?_⟩
    have : AV.agg q = .agg x.cells := hx
    injection this
  exact ⟨l, rfl⟩
theorem shape_stys {qs : List AV} (h : Shape Tryd.prog 4 23 qs) : ∃ l : List Sty, qs = [.sl (stys l)] := by
  unfold Shape at h
  rw [Tryd.underlying23] at h
  obtain ⟨es, rfl, _, he⟩ := h
  obtain ⟨l, rfl⟩ := map_shape (f := Sty.cells) fun q hq => by
    obtain ⟨x, hx⟩ := shape_sty (he q hq)
    refine ⟨x, ?_⟩
    have : AV.agg q = .agg x.cells := hx
    injection this
  exact ⟨l, rfl⟩
theorem shape_up {n : Nat} {qs : List AV} (h : Shape Tryd.prog 4 22 qs) : ∃ l : List By, qs = [.sl (bys l)] := by
  unfold Shape at h
  rw [Tryd.underlying22] at h
  obtain ⟨es, rfl, _, he⟩ := h
  obtain ⟨l, rfl⟩ := map_shape (f := By.cells) fun q hq => by
    have h3 := he q hq
    unfold Shape at h3
    rw [Tryd.underlying41] at h3
    simp only [List.map_cons, List.map_nil, FieldsShape] at h3
    obtain ⟨_, _, rfl, h0, _, _, rfl, h1, _, _, rfl, h2, rfl⟩ := h3
    unfold Shape at h0 h1 h2
    simp only [Tryd.underlying3, Tryd.underlying9] at h0 h1 h2
    obtain ⟨x0, rfl, _⟩ := h0
    obtain ⟨x1, rfl, _⟩ := h1
    obtain ⟨x2, rfl, _⟩ := h2
    exact ⟨⟨x0, x1, x2⟩, rfl⟩
  exact ⟨l, rfl⟩
theorem shape_plan {qs : List AV} (h : Shape Tryd.prog 5 25 qs) : ∃ p : Pl, AV.agg qs = p.av := by
  unfold Shape at h
  rw [Tryd.underlying25] at h
  simp only [List.map_cons, List.map_nil, FieldsShape] at h
  obtain ⟨_, _, rfl, h0, _, _, rfl, h1, rfl⟩ := h
  obtain ⟨bs, rfl⟩ := shape_up (n := 0) h0
  obtain ⟨l, rfl⟩ := shape_stys h1
  exact ⟨⟨bs, l⟩, rfl⟩
section
variable {H : Type} {enc : TypeId × Value → H} {w : World} {spare : Nat → Bool} {held : Bool} {r : Reach} {b0 : Nat} {v : Value} {d : DataW H} {p : List MemPlace}
theorem arg_plan (hval : Value.okWide Tryd.prog w r b0 25 v) (hd : DataW.Trod enc Tryd.prog w 0 spare held 25 v d p) : ∃ x : Pl, PureV (fun g => g < w.heap.size ∧ True) w x.av v := by
  obtain ⟨qs, hs, hp⟩ := arg_struct 5 Tryd.underlying25 (by kernel_rfl) hval hd
  obtain ⟨x, e⟩ := shape_plan hs
  exact ⟨x, e ▸ hp⟩
theorem arg_sty (hval : Value.okWide Tryd.prog w r b0 31 v) (hd : DataW.Trod enc Tryd.prog w 0 spare held 31 v d p) : ∃ x : Sty, PureV (fun g => g < w.heap.size ∧ True) w x.av v := by
  obtain ⟨qs, hs, hp⟩ := arg_struct 3 Tryd.underlying31 (by kernel_rfl) hval hd
  obtain ⟨x, e⟩ := shape_sty hs
  exact ⟨x, e ▸ hp⟩
end
open YtjlblefjcapljaaDoor in
/-- The settled world, the two tables of unicode/utf8 as their initialisers lay them. -/
noncomputable def laidWorld (os : Os) : World :=
  let w0 := World.holding Tryd.prog os ⟨#[], #[], []⟩
  let put (h : Array Obj) (g : Nat) (cs : Array Value) : Array Obj := h.modify g fun
    | .cells _ t frozen => .cells cs t frozen
    | o => o
  let h1 := put w0.heap 1 (laidVals 9 Rows.laid_unicode_utf8_first).toArray
  let h2 := put h1 2 (laidVals 9 (Rows.laid_unicode_utf8_acceptRanges (H := Unit))).toArray
  { w0 with heap := h2 }
open YtjlblefjcapljaaDoor in
theorem laid_met0 (os : Os) (args : Array Value) : laidMet Tryd.prog Rows.bayChecksRow.laid ((laidWorld os).forCall (fun _ _ => 0) ⟨#[], args, []⟩).memory :=
  laidMet_of_run' 8 (by kernel_rfl) (by kernel_rfl)
end Go.Proofs
end
