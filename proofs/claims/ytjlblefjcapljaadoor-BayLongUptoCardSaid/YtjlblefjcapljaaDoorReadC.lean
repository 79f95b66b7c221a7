import Derived.Test.YtjlblefjcapljaaDoorReadB
import Derived.Test.YtjlblefjcapljaaDoorLongB
section
set_option linter.unusedVariables false
set_option linter.unusedSimpArgs false
namespace Go.Proofs
open Go Go.Ab Go.ChangeShapes Go.WideShapes Go.ChangeAt Go.RowKit
set_option maxRecDepth 100000
set_option linter.unusedSimpArgs false
set_option linter.unusedVariables false
section
variable {H : Type} {enc : TypeId × Value → H} {w : World} {spare : Nat → Bool} {held : Bool} {r : Reach} {b0 : Nat} {v : Value} {d : DataW H} {p : List MemPlace}
theorem u8_inV {k : Int} (hk : (Lit.int .u8 k).wf = true) : 0 ≤ k ∧ k < 256 := by
  have h := (Lit.wf_int_iff .u8 k).1 hk
  have e1 : IntKind.u8.min = 0 := by decide +kernel
  have e2 : IntKind.u8.max = 255 := by decide +kernel
  omega
theorem arg_agg {P : Program} {t : TypeId} {cs : Array Value} (n : Nat) (ht : readsTy P n t = true)
    (hd : DataW.Trod enc P w 0 spare held t (.agg cs) d p) : ∃ qs, Shape P n t qs ∧ PureV (fun g => g < w.heap.size ∧ True) w (.agg qs) (.agg cs) := by
  obtain ⟨fuel, h⟩ := hd
  obtain ⟨_, qs, h1, h2, h3⟩ := read_ty n t ht h
  refine ⟨qs, h1, ?_⟩
  have e : cs = cs.toList.toArray := by simp
  have h2 : qs.length = cs.toList.length := h2
  rw [e]
  refine .agg _ cs.toList h2 (fun u hu => ?_) (fun j hj => ?_)
  · obtain ⟨j, hj, rfl⟩ := List.getElem_of_mem hu
    have := (h3 j (by omega)).2
    rw [Nat.zero_add] at this
    have e2 : cv (Value.agg cs).cells.toList j = cs.toList[j] := by show cv cs.toList j = _; unfold cv; rw [List.getD_eq_getElem?_getD, List.getElem?_eq_getElem hj]; rfl
    rw [e2] at this
    exact this
  · have := (h3 j hj).1
    rw [Nat.zero_add] at this
    exact this.mono fun g hg => ⟨⟨hg, trivial⟩, rfl⟩
theorem arg_pair (hval : Value.okWide Tryd.prog w r b0 38 v) (hd : DataW.Trod enc Tryd.prog w 0 spare held 38 v d p) :
    ∃ a0 a1 : Int, (0 ≤ a0 ∧ a0 < 256) ∧ (0 ≤ a1 ∧ a1 < 256) ∧ PureV (fun g => g < w.heap.size ∧ True) w (.agg [.v (.int .u8 a0), .v (.int .u8 a1)]) v := by
  unfold Value.okWide at hval
  rw [Tryd.underlying38] at hval
  obtain ⟨cs, rfl, _⟩ := hval
  obtain ⟨qs, h, hp⟩ := arg_agg 3 (by kernel_rfl) hd
  unfold Shape at h
  rw [Tryd.underlying38] at h
  obtain ⟨rs, rfl, hl, he⟩ := h
  have each : ∀ q ∈ rs, ∃ i : Int, q = [.v (.int .u8 i)] ∧ (Lit.int .u8 i).wf = true := by
    intro q hq
    have h1 := he q hq
    unfold Shape at h1
    simp only [Tryd.underlying5] at h1
    exact h1
  match rs, hl with
  | [q0, q1], _ =>
  obtain ⟨a0, rfl, h0⟩ := each q0 (by simp)
  obtain ⟨a1, rfl, h1⟩ := each q1 (by simp)
  exact ⟨a0, a1, u8_inV h0, u8_inV h1, hp⟩
open YtjlblefjcapljaaDoor in
theorem bulk_all (l : List (DataW H)) (d : DataW H) (h : d ∈ l) : Rows.uptoBulk d ≤ Rows.uptoBulkAll l := by
  induction l with
  | nil => cases h
  | cons x l ih =>
    simp only [Rows.uptoBulkAll]
    cases List.mem_cons.1 h with
    | inl e => subst e; omega
    | inr e => have := ih e; omega
open YtjlblefjcapljaaDoor in
theorem bulk_app (l m : List (DataW H)) : Rows.uptoBulkAll l ≤ Rows.uptoBulkAll (l ++ m) := by
  induction l with
  | nil => simp [Rows.uptoBulkAll]
  | cons x l ih => simp only [List.cons_append, Rows.uptoBulkAll]; omega
open YtjlblefjcapljaaDoor in
theorem sty_bulk {st : Nat → Prop} {x : Sty} (hp : PureV st w x.av v) (hd : DataW.Trod enc Tryd.prog w 0 spare held 31 v d p) : x.item.size ≤ Rows.uptoBulk d := by
  obtain ⟨fuel, h⟩ := hd
  have hp' : PureV st w (.agg x.cells) v := hp
  cases hp' with
  | agg _ xs hl h1 hr =>
    obtain ⟨ys, n, rfl, hx, hlen, hl2, hf⟩ := DataW.trod_struct Tryd.underlying31 h
    have h0 := hf 0 _ rfl
    obtain ⟨y, hy⟩ : ∃ y, ys[0]? = some y := ⟨_, List.getElem?_eq_getElem (by rw [hl2]; decide)⟩
    rw [hy] at h0
    obtain ⟨s, hs, hy', _⟩ := DataW.trod_string Tryd.underlying9 h0
    have hc : Tryd.prog.cellsOf 9 = 1 := by kernel_rfl
    have hr0 := hr 0 (by simp [Sty.cells])
    have e0 : cv xs 0 = .string s := by
      have hs' : (xs.drop 0).take 1 = [Value.string s] := by
        rw [← hs]
        show _ = ((Value.agg xs.toArray).cells.toList.drop 0).take (Tryd.prog.cellsOf 9)
        rw [hc]
        rfl
      cases xs with
      | nil => simp at hs'
      | cons z zs => simp at hs'; subst hs'; rfl
    rw [e0] at hr0
    have e1 : s = x.item := by
      have hr1 : PureV st w (.v (.string x.item)) (.string s) := hr0
      cases hr1
      rfl
    obtain ⟨rfl, -⟩ := Prod.mk.inj hx
    have hm : y.1 ∈ ys.map (·.1) := List.mem_map.2 ⟨y, List.mem_of_getElem? hy, rfl⟩
    have h2 := bulk_all _ _ hm
    rw [hy'] at h2
    have h3 : Rows.uptoBulk (DataW.lit (H := H) (.string s.data.toList)) = s.data.toList.length + 1 := by simp [Rows.uptoBulk]
    rw [h3] at h2
    simp only [Rows.uptoBulk]
    have h4 : s.data.toList.length = x.item.size := by rw [← e1]; rfl
    omega
open YtjlblefjcapljaaDoor in
/-- The third of three arguments is a stay: its name is short. -/
theorem sty_small {st : Nat → Prop} {x : Sty} {d0 d1 : DataW H} {gs : List (DataW H)} (hk : Rows.uptoSmall H ([d0, d1, d] ++ gs) = true) (hp : PureV st w x.av v)
    (hd : DataW.Trod enc Tryd.prog w 0 spare held 31 v d p) : x.item.size < 2000000 := by
  have h1 := sty_bulk hp hd
  have h2 := bulk_app [d0, d1, d] gs
  have h3 := bulk_all [d0, d1, d] d (by simp)
  have h4 : Rows.uptoBulkAll ([d0, d1, d] ++ gs) ≤ 1048576 := by simpa [Rows.uptoSmall] using hk
  omega
end
end Go.Proofs
end
