import Derived.Below
import Derived.Orders
import Derived.Scope
import Derived.Laws.OwnMore
import Derived.Laws.CopyRow
import Derived.Laws.Small
import Derived.Laws.StructEq
import Derived.Laws.Slices
import Derived.Laws.RangeString
import Derived.Lib.OthersKept
import Derived.MapKept
import Derived.Laws.Strings
set_option linter.unusedVariables false
set_option linter.unusedSimpArgs false
namespace Go.Ab
open Go.RowKit

/-- Abstract values. 'sl': a slice that nobody writes any more, as the list of its elements, each the list of its cells. 'own': a slice that owns the row of that ghost name. 'bp': a pointer into an own box. 'ep': a pointer into an element of an own row. 'rp': a pointer to cells that nobody writes any more. -/
inductive AV
  | any
  | v (x : Value)
  | nils
  | sl (es : List (List AV))
  | rp (cs : List AV)
  | agg (cs : List AV)
  | tup (vs : List AV)
  | fn (f : Nat) (caps : List AV)
  | own (b : Nat)
  | bp (b o : Nat)
  | ep (b sz i o : Nat)
  | pre (b k : Nat)
  | suf (b sz i : Nat)
  | slf (es : List (List AV)) (sz : Nat) (e : TypeId)
  | mapv (b : Nat)
  | mpf (ks : List ByteArray) (vs : List AV)
  | ext (b : Nat) (L : List (List AV))
  deriving Inhabited

def av (l : List AV) (i : Nat) : AV := l.getD i .any
def cv (l : List Value) (i : Nat) : Value := l.getD i undef

/-- The map at a place: its keys in the order of the entries, and their values. -/
def MapAt (w : World) (g : Nat) (ks : List ByteArray) (f : Nat → Value) : Prop :=
  ∃ es clock, w.heap[g]? = some (.map es clock) ∧ es.size = ks.length ∧ ∀ i, i < ks.length → ∃ born, es[i]? = some ⟨.string (ks.getD i ⟨#[]⟩), f i, born⟩
theorem MapAt.mono {w w' : World} {g : Nat} {ks : List ByteArray} {f : Nat → Value} (hg : w'.heap[g]? = w.heap[g]?) (h : MapAt w g ks f) : MapAt w' g ks f := by
  obtain ⟨es, clock, h1, h2⟩ := h
  exact ⟨es, clock, by rw [hg]; exact h1, h2⟩

/-- What a value without ghost names stands for: 'st': the blocks that nobody writes any more. -/
inductive PureV (st : Nat → Prop) (w : World) : AV → Value → Prop
  | any (c) : PureV st w .any c
  | v (x) : PureV st w (.v x) x
  | nils (a) : PureV st w .nils (.slice a 0 0)
  | slE (a cap) (hc : cap ≤ maxLen) : PureV st w (.sl []) (.slice a 0 cap)
  | slC (es : List (List AV)) (g off cap sz : Nat) (f : Nat → Nat → Value) (hc : es.length ≤ cap) (hm : cap ≤ maxLen) (h0 : 0 < sz) (hne : es ≠ [])
      (hz : ∀ e ∈ es, e.length = sz) (hst : st g)
      (hcell : ∀ i j, i < es.length → j < sz → w.cell? ⟨g, off + (i * sz + j), none⟩ = some (f i j) ∧ (f i j).oneCell' = true)
      (hr : ∀ i j, i < es.length → j < sz → PureV st w (av (es.getD i []) j) (f i j)) :
      PureV st w (.sl es) (.slice (some ⟨g, off, none⟩) es.length cap)
  | rp (cs : List AV) (g off : Nat) (f : Nat → Value) (hst : st g)
      (hcell : ∀ j, j < cs.length → w.cell? ⟨g, off + j, none⟩ = some (f j) ∧ (f j).oneCell' = true)
      (hr : ∀ j, j < cs.length → PureV st w (av cs j) (f j)) : PureV st w (.rp cs) (.pointer (some ⟨g, off, none⟩))
  | agg (cs : List AV) (xs : List Value) (hl : cs.length = xs.length) (h1 : ∀ x ∈ xs, x.oneCell' = true) (hr : ∀ j, j < cs.length → PureV st w (av cs j) (cv xs j)) :
      PureV st w (.agg cs) (.agg xs.toArray)
  | tup (cs : List AV) (xs : List Value) (hl : cs.length = xs.length) (hr : ∀ j, j < cs.length → PureV st w (av cs j) (cv xs j)) :
      PureV st w (.tup cs) (.tuple xs.toArray)
  | fn (f : Nat) (cs : List AV) (xs : List Value) (hl : cs.length = xs.length) (hr : ∀ j, j < cs.length → PureV st w (av cs j) (cv xs j)) :
      PureV st w (.fn f cs) (.func (.func f) #[] xs.toArray)
  | mpf (ks : List ByteArray) (vs : List AV) (g : Nat) (f : Nat → Value) (hst : st g) (hm : MapAt w g ks f) (hl : vs.length = ks.length)
      (hr : ∀ i, i < ks.length → PureV st w (av vs i) (f i)) : PureV st w (.mpf ks vs) (.map (some g))

/-- The block of a pointer, or of a slice that has room. -/
def blkOf : Value → Option Nat
  | .slice (some a) _ cap => if cap = 0 then none else some a.block
  | .pointer (some a) => some a.block
  | .map (some g) => some g
  | _ => none

/-- The slice value c owns a row whose first cells are xs; or it has no room at all. -/
def RowRep (w : World) (e : TypeId) (sz : Nat) (c : Value) (n : Nat) (xs : List Value) : Prop :=
  (∃ a, c = .slice a 0 0 ∧ n = 0 ∧ xs = []) ∨ (∃ g cap, c = .slice (some ⟨g, 0, none⟩) n cap ∧ 0 < cap ∧ w.ownsRow 0 e sz c n xs)

theorem RowRep.of_owns {w : World} {base : Nat} {e : TypeId} {sz : Nat} {c : Value} {n : Nat} {xs : List Value} (h : w.ownsRow base e sz c n xs) : RowRep w e sz c n xs := by
  obtain ⟨hl, h⟩ := h
  rcases h with ⟨rfl, rfl⟩ | ⟨g, cap, cur, rfl, hb, hg, hn, hc, hs, ht⟩
  · exact .inl ⟨none, rfl, rfl, List.eq_nil_of_length_eq_zero (by simpa using hl)⟩
  · by_cases h0 : cap = 0
    · subst h0
      have : n = 0 := by omega
      subst this
      exact .inl ⟨_, rfl, rfl, List.eq_nil_of_length_eq_zero (by simpa using hl)⟩
    · exact .inr ⟨g, cap, rfl, by omega, hl, .inr ⟨g, cap, cur, rfl, Nat.zero_le _, hg, hn, hc, hs, ht⟩⟩

theorem RowRep.len {w : World} {e : TypeId} {sz : Nat} {c : Value} {n : Nat} {xs : List Value} (h : RowRep w e sz c n xs) : xs.length = n * sz := by
  rcases h with ⟨a, _, rfl, rfl⟩ | ⟨g, cap, _, _, h⟩
  · simp
  · exact h.1

theorem RowRep.mono {w w' : World} {e : TypeId} {sz : Nat} {c : Value} {n : Nat} {xs : List Value} (hc : ∀ g, blkOf c = some g → w'.heap[g]? = w.heap[g]?) (h : RowRep w e sz c n xs) : RowRep w' e sz c n xs := by
  rcases h with h | ⟨g, cap, rfl, h0, h⟩
  · exact .inl h
  · refine .inr ⟨g, cap, rfl, h0, h.1, ?_⟩
    rcases h.2 with ⟨h', _⟩ | ⟨g', cap', cur, hv, hb, hg, rest⟩
    · cases h'
    · obtain ⟨h1, h2⟩ : g = g' ∧ cap = cap' := by simpa using hv
      subst h1; subst h2
      exact .inr ⟨g, cap, cur, rfl, hb, by rw [hc g (by simp [blkOf]; omega)]; exact hg, rest⟩

structure RowFits (st : Nat → Prop) (w : World) (es : List (List AV)) (sz : Nat) (e : TypeId) (c : Value) (xs : List Value) : Prop where
  z : ∀ x ∈ es, x.length = sz
  pos : 0 < sz
  row : RowRep w e sz c es.length xs
  one : ∀ x ∈ xs, x.oneCell' = true
  cell : ∀ i j, i < es.length → j < sz → PureV st w (av (es.getD i []) j) (cv xs (i * sz + j))

theorem PureV.mono {st st' : Nat → Prop} {w w' : World} (h : ∀ g, st g → st' g ∧ w'.heap[g]? = w.heap[g]?) {a : AV} {c : Value} (p : PureV st w a c) : PureV st' w' a c := by
  induction p with
  | any c => exact .any c
  | v x => exact .v x
  | nils a => exact .nils a
  | slE a cap hc => exact .slE a cap hc
  | slC es g off cap sz f hc hm h0 hne hz hst hcell hr ih =>
    exact .slC es g off cap sz f hc hm h0 hne hz (h g hst).1 (fun i j hi hj => by rw [World.cell?_of_block (w := w) (h g hst).2]; exact hcell i j hi hj) ih
  | rp cs g off f hst hcell hr ih =>
    exact .rp cs g off f (h g hst).1 (fun j hj => by rw [World.cell?_of_block (w := w) (h g hst).2]; exact hcell j hj) ih
  | agg cs xs hl h1 hr ih => exact .agg cs xs hl h1 ih
  | tup cs xs hl hr ih => exact .tup cs xs hl ih
  | fn f cs xs hl hr ih => exact .fn f cs xs hl ih
  | mpf ks vs g f hst hm hl hr ih => exact .mpf ks vs g f (h g hst).1 (hm.mono (h g hst).2) hl ih

inductive SimV (st : Nat → Prop) (β : Nat → Value) (w : World) : AV → Value → Prop
  | pure {a c} (h : PureV st w a c) : SimV st β w a c
  | agg (cs : List AV) (xs : List Value) (hl : cs.length = xs.length) (h1 : ∀ x ∈ xs, x.oneCell' = true) (hr : ∀ j, j < cs.length → SimV st β w (av cs j) (cv xs j)) :
      SimV st β w (.agg cs) (.agg xs.toArray)
  | tup (cs : List AV) (xs : List Value) (hl : cs.length = xs.length) (hr : ∀ j, j < cs.length → SimV st β w (av cs j) (cv xs j)) :
      SimV st β w (.tup cs) (.tuple xs.toArray)
  | fn (f : Nat) (cs : List AV) (xs : List Value) (hl : cs.length = xs.length) (hr : ∀ j, j < cs.length → SimV st β w (av cs j) (cv xs j)) :
      SimV st β w (.fn f cs) (.func (.func f) #[] xs.toArray)
  | own (b : Nat) {a n cap} (h : β b = .slice a n cap) : SimV st β w (.own b) (.slice a n cap)
  | bp (b o : Nat) {g} (h : β b = .pointer (some ⟨g, 0, none⟩)) : SimV st β w (.bp b o) (.pointer (some ⟨g, o, none⟩))
  | ep (b sz i o : Nat) {g n cap} (h : β b = .slice (some ⟨g, 0, none⟩) n cap) : SimV st β w (.ep b sz i o) (.pointer (some ⟨g, i * sz + o, none⟩))
  | pre (b k : Nat) {a n cap cap'} (h : β b = .slice a n cap) (hk : k ≤ cap') (hm : cap' ≤ maxLen) : SimV st β w (.pre b k) (.slice a k cap')
  | suf (b sz i : Nat) {a n cap} (h : β b = .slice a n cap) (hi : i ≤ n) : SimV st β w (.suf b sz i) (.slice (if cap = i then a else a.map (·.add (i * sz))) (n - i) (cap - i))
  | mapv (b : Nat) {g} (h : β b = .map (some g)) : SimV st β w (.mapv b) (.map (some g))
  | extS (b : Nat) (L : List (List AV)) {g n cap} (h : β b = .slice (some ⟨g, 0, none⟩) n cap) (hk : L.length ≤ cap) : SimV st β w (.ext b L) (.slice (some ⟨g, 0, none⟩) L.length cap)
  | extP (b : Nat) (L : List (List AV)) {c} (h : PureV st w (.sl L) c) : SimV st β w (.ext b L) c
  | slf (es : List (List AV)) (sz : Nat) (e : TypeId) {g : Nat} {xs : List Value} (hst : st g) (hf : RowFits st w es sz e (.slice (some ⟨g, 0, none⟩) es.length es.length) xs) :
      SimV st β w (.slf es sz e) (.slice (some ⟨g, 0, none⟩) es.length es.length)

/-- What was named stays named. -/
def Grows (β β' : Nat → Value) : Prop := ∀ n, β n ≠ undef → β' n = β n
theorem Grows.refl (β : Nat → Value) : Grows β β := fun _ _ => rfl
theorem Grows.trans {a b c : Nat → Value} (h : Grows a b) (k : Grows b c) : Grows a c := fun n hn => by
  have h1 := h n hn
  rw [k n (by rw [h1]; exact hn), h1]

theorem SimV.mono {st st' : Nat → Prop} {β β' : Nat → Value} {w w' : World} (hβ : Grows β β') (h : ∀ g, st g → st' g ∧ w'.heap[g]? = w.heap[g]?) {a : AV} {c : Value} (p : SimV st β w a c) : SimV st' β' w' a c := by
  induction p with
  | pure p => exact .pure (p.mono h)
  | agg cs xs hl h1 hr ih => exact .agg cs xs hl h1 ih
  | tup cs xs hl hr ih => exact .tup cs xs hl ih
  | fn f cs xs hl hr ih => exact .fn f cs xs hl ih
  | own b hb => exact .own b (by rw [hβ b (by rw [hb]; simp [undef]), hb])
  | pre b k hb hk hm => exact .pre b k (by rw [hβ b (by rw [hb]; simp [undef]), hb]) hk hm
  | suf b sz i hb hi => exact .suf b sz i (by rw [hβ b (by rw [hb]; simp [undef]), hb]) hi
  | @slf es sz e g xs hst hf =>
    exact .slf es sz e (h g hst).1 ⟨hf.z, hf.pos, hf.row.mono (fun k hk => by
      have : k = g := by simp only [blkOf] at hk; split at hk <;> simp_all
      subst this; exact (h _ hst).2), hf.one, fun i j hi hj => (hf.cell i j hi hj).mono h⟩
  | bp b o hb => exact .bp b o (by rw [hβ b (by rw [hb]; simp [undef]), hb])
  | mapv b hb => exact .mapv b (by rw [hβ b (by rw [hb]; simp [undef]), hb])
  | extS b L hb hk => exact .extS b L (by rw [hβ b (by rw [hb]; simp [undef]), hb]) hk
  | extP b L h' => exact .extP b L (h'.mono h)
  | ep b sz i o hb => exact .ep b sz i o (by rw [hβ b (by rw [hb]; simp [undef]), hb])

inductive Blk
  | box (cs : List AV)
  | row (es : List (List AV)) (sz : Nat) (e : TypeId)
  | iter (s : ByteArray) (pos : Nat)
  | rowX (es : List (List AV)) (sz : Nat) (e : TypeId)
  | map (ks : List ByteArray) (vs : List AV)
  | rowS (es ys : List (List AV)) (sz : Nat) (e : TypeId)
  deriving Inhabited

structure BoxFits (st : Nat → Prop) (β : Nat → Value) (w : World) (cs : List AV) (c : Value) (g : Nat) (ty : TypeId) (xs : List Value) : Prop where
  eq : c = .pointer (some ⟨g, 0, none⟩)
  heap : w.heap[g]? = some (.cells xs.toArray ty (0, 0))
  len : xs.length = cs.length
  one : ∀ x ∈ xs, x.oneCell' = true
  cell : ∀ j, j < cs.length → SimV st β w (av cs j) (cv xs j)

/-- A row whose cells may bear ghost names. -/
structure RowFitsX (st : Nat → Prop) (β : Nat → Value) (w : World) (es : List (List AV)) (sz : Nat) (e : TypeId) (c : Value) (xs : List Value) : Prop where
  z : ∀ x ∈ es, x.length = sz
  pos : 0 < sz
  row : RowRep w e sz c es.length xs
  one : ∀ x ∈ xs, x.oneCell' = true
  cell : ∀ i j, i < es.length → j < sz → SimV st β w (av (es.getD i []) j) (cv xs (i * sz + j))

structure MapFits (st : Nat → Prop) (w : World) (ks : List ByteArray) (vs : List AV) (c : Value) (g : Nat) (f : Nat → Value) : Prop where
  eq : c = .map (some g)
  at_ : MapAt w g ks f
  len : vs.length = ks.length
  val : ∀ i, i < ks.length → PureV st w (av vs i) (f i)

def BlkRep (st : Nat → Prop) (β : Nat → Value) (w : World) : Blk → Value → Prop
  | .box cs, c => ∃ g ty xs, BoxFits st β w cs c g ty xs
  | .row es sz e, c => ∃ xs, RowFits st w es sz e c xs
  | .iter s pos, c => ∃ g, c = .pointer (some ⟨g, 0, none⟩) ∧ w.heap[g]? = some (.stringIter s pos)
  | .rowX es sz e, c => ∃ xs, RowFitsX st β w es sz e c xs
  | .map ks vs, c => ∃ g f, MapFits st w ks vs c g f
  | .rowS es ys sz e, c => (∃ xs, RowFits st w es sz e c xs) ∧ ∀ g n cap, c = .slice (some ⟨g, 0, none⟩) n cap → es.length + ys.length ≤ cap → ys ≠ [] → ∃ xs, RowFits st w (es ++ ys) sz e (.slice (some ⟨g, 0, none⟩) (es.length + ys.length) cap) xs

theorem BlkRep.mono {st st' : Nat → Prop} {β β' : Nat → Value} {w w' : World} (hβ : Grows β β') (h : ∀ g, st g → st' g ∧ w'.heap[g]? = w.heap[g]?) {b : Blk} {c : Value}
    (hc : ∀ g, blkOf c = some g → w'.heap[g]? = w.heap[g]?) (p : BlkRep st β w b c) : BlkRep st' β' w' b c := by
  cases b with
  | box cs =>
    obtain ⟨g, ty, xs, rfl, hg, hl, h1, hr⟩ := p
    exact ⟨g, ty, xs, rfl, by rw [hc g rfl]; exact hg, hl, h1, fun j hj => (hr j hj).mono hβ h⟩
  | row es sz e =>
    obtain ⟨xs, hz, h0, hrow, h1, hr⟩ := p
    exact ⟨xs, hz, h0, hrow.mono hc, h1, fun i j hi hj => (hr i j hi hj).mono h⟩
  | iter s pos =>
    obtain ⟨g, rfl, hg⟩ := p
    exact ⟨g, rfl, by rw [hc g rfl]; exact hg⟩
  | rowX es sz e =>
    obtain ⟨xs, hz, h0, hrow, h1, hr⟩ := p
    exact ⟨xs, hz, h0, hrow.mono hc, h1, fun i j hi hj => (hr i j hi hj).mono hβ h⟩
  | map ks vs =>
    obtain ⟨g, f, rfl, hm, hl, hv⟩ := p
    exact ⟨g, f, rfl, hm.mono (hc g rfl), hl, fun i hi => (hv i hi).mono h⟩
  | rowS es ys sz e =>
    obtain ⟨⟨xs, hz, h0, hrow, h1, hr⟩, h2⟩ := p
    refine ⟨⟨xs, hz, h0, hrow.mono hc, h1, fun i j hi hj => (hr i j hi hj).mono h⟩, fun g n cap e1 e2 e3 => ?_⟩
    obtain ⟨zs, kz, k0, krow, k1, kr⟩ := h2 g n cap e1 e2 e3
    have hy : 0 < ys.length := List.length_pos_iff.2 e3
    refine ⟨zs, kz, k0, krow.mono (fun k hk => hc k ?_), k1, fun i j hi hj => (kr i j hi hj).mono h⟩
    rw [e1]
    simp only [blkOf] at hk ⊢
    rw [if_neg (by omega)] at hk ⊢
    exact hk

end Go.Ab
namespace Go.Ab

def upd {α : Type} (f : Nat → α) (k : Nat) (x : α) : Nat → α := fun n => if n = k then x else f n
def updL {α : Type} (f : Nat → α) : List (Nat × α) → Nat → α
  | [] => f
  | (k, x) :: r => updL (upd f k x) r

structure AState where
  t : Nat → AV
  h : Nat → Option Blk

inductive AOpd
  | t (n : Nat)
  | c (v : Value)
  | f (n : Nat)
  deriving Inhabited

def AV.ofV : Value → AV
  | .slice none 0 0 => .nils
  | x => .v x

def evo (S : AState) : AOpd → AV
  | .t n => S.t n
  | .c x => AV.ofV x
  | .f n => .fn n []

/-- Is it a value of one cell? -/
def AV.one : AV → Prop
  | .v x => x.oneCell' = true
  | .nils | .sl _ | .rp _ | .fn _ _ | .own _ | .bp _ _ | .ep _ _ _ _ | .pre _ _ | .slf _ _ _ | .mapv _ | .mpf _ _ => True
  | _ => False
def AV.cells : AV → List AV
  | .agg cs => cs
  | x => [x]
def AV.okCells : AV → Prop
  | .agg _ => True
  | x => x.one
/-- Free of ghost names, by the look of it. -/
def AV.flat : AV → Bool
  | .v _ | .nils | .sl _ | .rp _ | .mpf _ _ => true
  | _ => false

def splice (xs : List AV) (o : Nat) (ys : List AV) : List AV := xs.take o ++ ys ++ xs.drop (o + ys.length)

inductive AOp
  | mv (x : AOpd)
  | pick (c a b : AOpd)
  | alloc (zs : List Value)
  | box (n : Nat) (x : AOpd)
  | build (zs : List Value) (parts : List (Nat × Nat × AOpd))
  | buildSlice (e : TypeId) (sz : Nat) (parts : List AOpd)
  | load (n : Nat) (agg : Bool) (x : AOpd)
  | store (n : Nat) (p x : AOpd)
  | bin (op : BinOp) (x y : AOpd)
  | eqAgg (neg : Bool) (ks : List Nat) (x y : AOpd)
  | eqB (neg : Bool) (x y : AOpd)
  | un (op : UnOp) (x : AOpd)
  | fieldAddr (o : Nat) (x : AOpd)
  | field (o n : Nat) (agg : Bool) (x : AOpd)
  | idxAddr (sz : Nat) (x i : AOpd)
  | idxStr (x i : AOpd)
  | idxArr (len sz : Nat) (agg : Bool) (x i : AOpd)
  | idxPtr (len sz : Nat) (x i : AOpd)
  | slice (sz : Nat) (x : AOpd) (lo hi : Option AOpd)
  | sliceStr (x : AOpd) (lo hi : Option AOpd)
  | slice0 (x : AOpd)
  | clear (sz : Nat) (zs : List Value) (x : AOpd)
  | copy (sz : Nat) (p x : AOpd)
  | len (x : AOpd)
  | lenStr (x : AOpd)
  | append (e : TypeId) (sz bytes : Nat) (s x : AOpd)
  | minmax (mx : Bool) (x y : AOpd)
  | call (f : FuncId) (args : List AOpd)
  | callv (x : AOpd) (args : List AOpd)
  | extract (x : AOpd) (i : Nat)
  | mkfn (f : FuncId) (caps : List AOpd)
  | conv (k : IntKind) (x : AOpd)
  | make (e : TypeId) (sz bytes : Nat) (zs : List Value) (n : AOpd)
  | range (x : AOpd)
  | next (x : AOpd)
  | mapMake
  | mapLen (x : AOpd)
  | mapGet (z : AV) (ok : Bool) (x k : AOpd)
  | mapPut (x k v : AOpd)
  | mapDel (x k : AOpd)
  | bad
  deriving Inhabited

structure Eff where
  side : Prop
  val : AV
  ups : List (Nat × Option Blk)
  rd : List Nat

def Eff.fail : Eff := ⟨False, .any, [], []⟩
def Eff.ret (v : AV) : Eff := ⟨True, v, [], []⟩
def Eff.iff (p : Prop) (v : AV) : Eff := ⟨p, v, [], []⟩

def ofCells (agg : Bool) (n : Nat) (cs : List AV) : AV := if agg then .agg (cs.take n) else av cs 0

def effLoad (h : Nat → Option Blk) (n : Nat) (agg : Bool) : AV → Eff
  | .rp cs => ⟨n ≤ cs.length, ofCells agg n cs, [], []⟩
  | .bp b o => match h b with
    | some (.box cs) => ⟨o + n ≤ cs.length, ofCells agg n (cs.drop o), [], [b]⟩
    | _ => .fail
  | .ep b sz i o => match h b with
    | some (.row es sz' _) => ⟨sz = sz' ∧ i < es.length ∧ o + n ≤ sz, ofCells agg n ((es.getD i []).drop o), [], [b]⟩
    | some (.rowX es sz' _) => ⟨sz = sz' ∧ i < es.length ∧ o + n ≤ sz, ofCells agg n ((es.getD i []).drop o), [], [b]⟩
    | _ => .fail
  | _ => .fail

def effStore (h : Nat → Option Blk) (n : Nat) (p x : AV) : Eff :=
  match p with
  | .bp b o => match h b with
    | some (.box cs) => ⟨x.okCells ∧ x.cells.length = n ∧ o + n ≤ cs.length, .tup [], [(b, some (.box (splice cs o x.cells)))], [b]⟩
    | _ => .fail
  | .ep b sz i o => match h b with
    | some (.row es sz' e) => ⟨x.okCells ∧ x.cells.length = n ∧ (∀ c ∈ x.cells, c.flat = true) ∧ sz = sz' ∧ i < es.length ∧ o + n ≤ sz, .tup [], [(b, some (.row (es.set i (splice (es.getD i []) o x.cells)) sz e))], [b]⟩
    | _ => .fail
  | _ => .fail

def storeX (b sz i o n : Nat) (x : AV) : Option Blk → Eff
  | some (.row es sz' e) => ⟨x.okCells ∧ x.cells.length = n ∧ sz = sz' ∧ i < es.length ∧ o + n ≤ sz, .tup [], [(b, some (.rowX (es.set i (splice (es.getD i []) o x.cells)) sz e))], [b]⟩
  | _ => .fail
/-- The same; a ghost name may be stored. -/
def effStoreX (h : Nat → Option Blk) (n : Nat) (p x : AV) : Eff :=
  match p with
  | .ep b sz i o => storeX b sz i o n x (h b)
  | _ => .fail

def strLess (a b : ByteArray) : Bool := Op.bytesLess a.toList b.toList

/-- An operator on two scalars: what is asked, and what it gives. -/
def binE : BinOp → Value → Value → Prop × Value
  | .add, .int k a, .int k' b => (k = k', .int k (k.wrap (a + b)))
  | .sub, .int k a, .int k' b => (k = k', .int k (k.wrap (a - b)))
  | .mul, .int k a, .int k' b => (k = k', .int k (k.wrap (a * b)))
  | .quo, .int k a, .int k' b => (k = k' ∧ b ≠ 0, .int k (k.wrap (a.tdiv b)))
  | .rem, .int k a, .int k' b => (k = k' ∧ b ≠ 0, .int k (a.tmod b))
  | .eql, .int k a, .int k' b => (k = k', .bool (a == b))
  | .neq, .int k a, .int k' b => (k = k', .bool (a != b))
  | .lss, .int k a, .int k' b => (k = k', .bool (decide (a < b)))
  | .leq, .int k a, .int k' b => (k = k', .bool (decide (a ≤ b)))
  | .gtr, .int k a, .int k' b => (k = k', .bool (decide (b < a)))
  | .geq, .int k a, .int k' b => (k = k', .bool (decide (b ≤ a)))
  | .eql, .string a, .string b => (True, .bool (a.toList == b.toList))
  | .neq, .string a, .string b => (True, .bool (!(a.toList == b.toList)))
  | .lss, .string a, .string b => (True, .bool (strLess a b))
  | .leq, .string a, .string b => (True, .bool (strLess a b || a.toList == b.toList))
  | .gtr, .string a, .string b => (True, .bool (!(strLess a b || a.toList == b.toList)))
  | .geq, .string a, .string b => (True, .bool (!strLess a b))
  | .add, .string a, .string b => (((a.size + b.size : Nat) : Int) ≤ 9223372036854775807, .string (a ++ b))
  | _, _, _ => (False, undef)

def effBin (op : BinOp) : AV → AV → Eff
  | .v x, .v y => .iff (binE op x y).1 (.v (binE op x y).2)
  | _, _ => .fail

def effEqB (neg : Bool) : AV → AV → Eff
  | .v (.bool a), .v (.bool b) => .ret (.v (.bool (neg ^^ (a == b))))
  | _, _ => .fail

/-- Cells of a comparable value, of kinds 0 (numbers), 1 (bools), 2 (strings). -/
def eqCell : Nat → AV → AV → Prop × Bool
  | 0, .v (.int k a), .v (.int k' b) => (k = k', a == b)
  | 1, .v (.bool a), .v (.bool b) => (True, a == b)
  | 2, .v (.string a), .v (.string b) => (True, a.toList == b.toList)
  | _, _, _ => (False, false)
def eqCells : List Nat → List AV → List AV → Prop × Bool
  | [], [], [] => (True, true)
  | k :: ks, a :: x, b :: y => ((eqCell k a b).1 ∧ (eqCells ks x y).1, (eqCell k a b).2 && (eqCells ks x y).2)
  | _, _, _ => (False, false)
def effEqAgg (neg : Bool) (ks : List Nat) : AV → AV → Eff
  | .agg x, .agg y => .iff (eqCells ks x y).1 (.v (.bool (neg ^^ (eqCells ks x y).2)))
  | _, _ => .fail

def effUn (op : UnOp) : AV → Eff
  | .v (.bool b) => .iff (op = .not) (.v (.bool (!b)))
  | .v (.int k n) => .iff (op = .neg) (.v (.int k (k.wrap (0 - n))))
  | _ => .fail

def effFieldAddr (o : Nat) : AV → Eff
  | .rp cs => .iff (o < cs.length) (.rp (cs.drop o))
  | .bp b k => .ret (.bp b (k + o))
  | .ep b sz i k => .ret (.ep b sz i (k + o))
  | _ => .fail

def effField (o n : Nat) (agg : Bool) : AV → Eff
  | .agg cs => .iff (o + n ≤ cs.length) (ofCells agg n (cs.drop o))
  | _ => .fail

def effIdxAddr (h : Nat → Option Blk) (sz : Nat) (i : AV) : AV → Eff
  | .sl es => match i with
    | .v (.int _ n) => .iff (0 ≤ n ∧ n < es.length ∧ (es.getD n.toNat []).length = sz) (.rp (es.getD n.toNat []))
    | _ => .fail
  | .own b => match h b, i with
    | some (.row es sz' _), .v (.int _ n) => ⟨0 ≤ n ∧ n < es.length ∧ sz = sz', .ep b sz n.toNat 0, [], [b]⟩
    | some (.rowX es sz' _), .v (.int _ n) => ⟨0 ≤ n ∧ n < es.length ∧ sz = sz', .ep b sz n.toNat 0, [], [b]⟩
    | _, _ => .fail
  | .pre b q => match h b, i with
    | some (.row es sz' _), .v (.int _ n) => ⟨0 ≤ n ∧ n < q ∧ q ≤ es.length ∧ sz = sz', .ep b sz n.toNat 0, [], [b]⟩
    | _, _ => .fail
  | _ => .fail

def effIdxStr : AV → AV → Eff
  | .v (.string s), .v (.int _ n) => .iff (0 ≤ n ∧ n < s.size) (.v (.int .u8 ((s.data.getD n.toNat 0).toNat : Int)))
  | _, _ => .fail

def effIdxArr (len sz : Nat) (agg : Bool) : AV → AV → Eff
  | .agg cs, .v (.int _ n) => .iff (0 ≤ n ∧ n < len ∧ cs.length = len * sz) (ofCells agg sz (cs.drop (n.toNat * sz)))
  | _, _ => .fail

/-- A cell of an array in memory. -/
def effIdxPtr (len sz : Nat) (ix : AV) : AV → Eff
  | .bp b o => match ix with
    | .v (.int _ n) => .iff (0 ≤ n ∧ n < len) (.bp b (o + n.toNat * sz))
    | _ => .fail
  | .rp cs => match ix with
    | .v (.int _ n) => .iff (0 ≤ n ∧ n < len ∧ n.toNat * sz < cs.length) (.rp (cs.drop (n.toNat * sz)))
    | _ => .fail
  | _ => .fail

def loBound : Option AV → Int
  | none => 0
  | some (.v (.int _ n)) => n
  | _ => -1
def hiBound (len : Nat) : Option AV → Int
  | none => len
  | some (.v (.int _ n)) => n
  | _ => -1
def effSlice (sz : Nat) (lo hi : Option AV) : AV → Eff
  | .sl es => .iff ((∀ x ∈ es, x.length = sz) ∧ 0 ≤ loBound lo ∧ loBound lo ≤ hiBound es.length hi ∧ hiBound es.length hi ≤ es.length) (.sl ((es.take (hiBound es.length hi).toNat).drop (loBound lo).toNat))
  | _ => .fail
def sliceO (b sz : Nat) (lo hi : Option AV) : Option Blk → Eff
  | some (.row es sz' _) => match lo, hi with
    | none, some k => ⟨sz' = sz ∧ 0 ≤ hiBound es.length (some k) ∧ hiBound es.length (some k) ≤ es.length, .pre b (hiBound es.length (some k)).toNat, [], [b]⟩
    | some l, none => ⟨sz' = sz ∧ 0 ≤ loBound (some l) ∧ loBound (some l) ≤ es.length, .suf b sz (loBound (some l)).toNat, [], [b]⟩
    | _, _ => .fail
  | _ => .fail
def effSliceO (h : Nat → Option Blk) (sz : Nat) (lo hi : Option AV) : AV → Eff
  | .own b => sliceO b sz lo hi (h b)
  | x => effSlice sz lo hi x
/-- 'clear' of the rest of an own row. -/
def clearR (b sz i : Nat) (zs : List Value) : Option Blk → Eff
  | some (.row es sz' e) => ⟨sz' = sz ∧ i < es.length ∧ zs.length = sz, .tup [], [(b, some (.row (es.take i ++ List.replicate (es.length - i) (zs.map AV.v)) sz e))], [b]⟩
  | _ => .fail
def effClear (h : Nat → Option Blk) (sz : Nat) (zs : List Value) : AV → Eff
  | .suf b sz' i => if sz' = sz then clearR b sz i zs (h b) else .fail
  | _ => .fail
def effSliceStr (lo hi : Option AV) : AV → Eff
  | .v (.string s) => .iff (0 ≤ loBound lo ∧ loBound lo ≤ hiBound s.size hi ∧ hiBound s.size hi ≤ s.size) (.v (.string (s.extract (loBound lo).toNat (hiBound s.size hi).toNat)))
  | _ => .fail
def effSlice0 : AV → Eff
  | .sl _ | .nils => .ret .nils
  | _ => .fail

def effLen (h : Nat → Option Blk) : AV → Eff
  | .sl es => .ret (.v (.int .i64 es.length))
  | .nils => .ret (.v (.int .i64 0))
  | .own b => match h b with
    | some (.row es _ _) => ⟨True, .v (.int .i64 es.length), [], [b]⟩
    | _ => .fail
  | .pre _ q => .ret (.v (.int .i64 q))
  | _ => .fail
def effLenStr : AV → Eff
  | .v (.string s) => .ret (.v (.int .i64 s.size))
  | _ => .fail

/-- The elements that a slice value shows, and the names read for it. -/
def elemsOf (h : Nat → Option Blk) (sz : Nat) : AV → Option (List (List AV) × List Nat)
  | .nils => some ([], [])
  | .sl es => some (es, [])
  | .own b => match h b with
    | some (.row es sz' _) => if sz' = sz then some (es, [b]) else none
    | _ => none
  | _ => none

def effAppend (h : Nat → Option Blk) (nm : Nat) (e : TypeId) (sz bytes : Nat) (s x : AV) : Eff :=
  match elemsOf h sz x with
  | none => .fail
  | some (ys, rx) =>
    match s with
    | .nils => ⟨(∀ y ∈ ys, y.length = sz) ∧ ys.length * bytes ≤ 140737488355328, .own nm, [(nm, some (.row ys sz e))], rx⟩
    | .own b => match h b with
      | some (.row es sz' e') => ⟨sz' = sz ∧ e' = e ∧ b ∉ rx ∧ (∀ y ∈ ys, y.length = sz) ∧ (es.length + ys.length) * bytes ≤ 140737488355328, .own nm, [(b, none), (nm, some (.row (es ++ ys) sz e))], b :: rx⟩
      | some (.rowS es _ sz' e') => ⟨sz' = sz ∧ e' = e ∧ b ∉ rx ∧ (∀ y ∈ ys, y.length = sz) ∧ (es.length + ys.length) * bytes ≤ 140737488355328, .own nm, [(b, none), (nm, some (.row (es ++ ys) sz e))], b :: rx⟩
      | _ => .fail
    | .slf es sz' e' => ⟨sz' = sz ∧ e' = e ∧ 0 < ys.length ∧ (∀ y ∈ ys, y.length = sz) ∧ (es.length + ys.length) * bytes ≤ 140737488355328, .own nm, [(nm, some (.row (es ++ ys) sz e))], rx⟩
    | _ => .fail
/-- The same, the slice to which was appended living on. -/
def effAppendK (h : Nat → Option Blk) (e : TypeId) (sz bytes : Nat) (s x : AV) : Eff :=
  match elemsOf h sz x with
  | none => .fail
  | some (ys, rx) =>
    match s with
    | .own b => match h b with
      | some (.row es sz' e') => ⟨sz' = sz ∧ e' = e ∧ b ∉ rx ∧ ys ≠ [] ∧ (∀ y ∈ ys, y.length = sz) ∧ (es.length + ys.length) * bytes ≤ 140737488355328, .ext b (es ++ ys), [(b, some (.rowS es ys sz e))], b :: rx⟩
      | _ => .fail
    | _ => .fail
def copyO (b sz : Nat) (ys : List (List AV)) (rx : List Nat) : Option Blk → Eff
  | some (.row es sz' e) => ⟨sz' = sz ∧ b ∉ rx ∧ es.length = ys.length ∧ (∀ y ∈ ys, y.length = sz), .v (.int .i64 ys.length), [(b, some (.row ys sz e))], b :: rx⟩
  | _ => .fail
def copyX (h : Nat → Option Blk) (b sz : Nat) : Option (List (List AV) × List Nat) → Eff
  | some (ys, rx) => copyO b sz ys rx (h b)
  | none => .fail
/-- 'copy' into a whole own row. -/
def effCopy (h : Nat → Option Blk) (sz : Nat) : AV → AV → Eff
  | .own b, x => copyX h b sz (elemsOf h sz x)
  | _, _ => .fail
/-- A choice of the prover: '.nils' takes the first. -/
def pickB : AV → Eff → Eff → Eff
  | .nils, X, _ => X
  | _, _, Y => Y

def effMinMax (mx : Bool) : AV → AV → Eff
  | .v (.int k a), .v (.int k' b) => .iff (k = k') (.v (.int k (if mx then (if a < b then b else a) else (if b < a then b else a))))
  | _, _ => .fail

def effExtract (i : Nat) : AV → Eff
  | .tup vs => .iff (i < vs.length) (av vs i)
  | _ => .fail
def effConv (k : IntKind) : AV → Eff
  | .v (.int _ n) => .ret (.v (.int k (k.wrap n)))
  | _ => .fail
def effMake (nm : Nat) (e : TypeId) (sz bytes : Nat) (zs : List Value) : AV → Eff
  | .v (.int _ n) => ⟨0 ≤ n ∧ bytes * n ≤ 281474976710656 ∧ n ≤ 9223372036854775807, .own nm, [(nm, some (.row (List.replicate n.toNat (zs.map AV.ofV)) sz e))], []⟩
  | _ => .fail

/-- The place of a key in a map's list of keys. -/
def mapIx (ks : List ByteArray) (s : ByteArray) : Option Nat := ks.findIdx? (fun x => s.toList == x.toList)
def mapVal (vs : List AV) (z : AV) : Option Nat → AV
  | some i => av vs i
  | none => z
def mapRet (ok : Bool) (v : AV) (found : Bool) : AV := if ok then .tup [v, .v (.bool found)] else v
/-- Free of ghost names, one level deep. -/
def AV.flatD : AV → Bool
  | .agg cs => cs.all AV.flat
  | x => x.flat
def putK (ks : List ByteArray) (s : ByteArray) : Option Nat → List ByteArray
  | some i => ks.set i s
  | none => ks ++ [s]
def putV (vs : List AV) (v : AV) : Option Nat → List AV
  | some i => vs.set i v
  | none => vs ++ [v]
def delK {α : Type} (ks : List α) : Option Nat → List α
  | some i => ks.eraseIdx i
  | none => ks
def effMapMake (nm : Nat) : Eff := ⟨True, .mapv nm, [(nm, some (.map [] []))], []⟩
def mapLenB (b : Nat) : Option Blk → Eff
  | some (.map ks _) => ⟨True, .v (.int .i64 ks.length), [], [b]⟩
  | _ => .fail
def effMapLen (h : Nat → Option Blk) : AV → Eff
  | .mapv b => mapLenB b (h b)
  | _ => .fail
def mapGetB (b : Nat) (z : AV) (ok : Bool) (s : ByteArray) : Option Blk → Eff
  | some (.map ks vs) => ⟨True, mapRet ok (mapVal vs z (mapIx ks s)) (mapIx ks s).isSome, [], [b]⟩
  | _ => .fail
def effMapGet (h : Nat → Option Blk) (z : AV) (ok : Bool) : AV → AV → Eff
  | .mapv b, .v (.string s) => mapGetB b z ok s (h b)
  | .mpf ks vs, .v (.string s) => ⟨True, mapRet ok (mapVal vs z (mapIx ks s)) (mapIx ks s).isSome, [], []⟩
  | _, _ => .fail
def mapPutB (b : Nat) (s : ByteArray) (v : AV) : Option Blk → Eff
  | some (.map ks vs) => ⟨v.flatD = true, .tup [], [(b, some (.map (putK ks s (mapIx ks s)) (putV vs v (mapIx ks s))))], [b]⟩
  | _ => .fail
def effMapPut (h : Nat → Option Blk) (v : AV) : AV → AV → Eff
  | .mapv b, .v (.string s) => mapPutB b s v (h b)
  | _, _ => .fail
def mapDelB (b : Nat) (s : ByteArray) : Option Blk → Eff
  | some (.map ks vs) => ⟨True, .tup [], [(b, some (.map (delK ks (mapIx ks s)) (delK vs (mapIx ks s))))], [b]⟩
  | _ => .fail
def effMapDel (h : Nat → Option Blk) : AV → AV → Eff
  | .mapv b, .v (.string s) => mapDelB b s (h b)
  | _, _ => .fail

def effPick : AV → AV → AV → Eff
  | .v (.bool t), a, b => .ret (if t then a else b)
  | _, _, _ => .fail

def effRange (nm : Nat) : AV → Eff
  | .v (.string s) => ⟨True, .bp nm 0, [(nm, some (.iter s 0))], []⟩
  | _ => .fail
def nextV (s : ByteArray) (pos : Nat) : AV := if pos < s.size then .tup [.v (.bool true), .v (.int .i64 pos), .v (.int .i32 ((Utf8.decode s pos).1 : Nat))] else .tup [.v (.bool false)]
def nextPos (s : ByteArray) (pos : Nat) : Nat := if pos < s.size then pos + (Utf8.decode s pos).2 else pos
def effNext (h : Nat → Option Blk) : AV → Eff
  | .bp b 0 => match h b with
    | some (.iter s pos) => ⟨True, nextV s pos, [(b, some (.iter s (nextPos s pos)))], [b]⟩
    | _ => .fail
  | _ => .fail

/-- The cells of a struct or array that is built of parts. -/
def buildE (S : AState) : List (Nat × Nat × AOpd) → List AV → Prop × List AV
  | [], cs => (True, cs)
  | (o, n, x) :: r, cs => (((evo S x).okCells ∧ (evo S x).cells.length = n ∧ o + n ≤ cs.length) ∧ (buildE S r (splice cs o (evo S x).cells)).1, (buildE S r (splice cs o (evo S x).cells)).2)

/-- A literal that nobody writes, as a slice. -/
def AV.deslf : AV → AV
  | .slf es _ _ => .sl es
  | x => x
/-- Parts of one size, one behind the other: the elements of a slice literal. -/
def rowE (S : AState) (sz : Nat) : List AOpd → Prop × List (List AV)
  | [] => (True, [])
  | x :: r => (((evo S x).okCells ∧ (evo S x).cells.length = sz ∧ (∀ c ∈ (evo S x).cells.map AV.deslf, c.flat = true)) ∧ (rowE S sz r).1, (evo S x).cells.map AV.deslf :: (rowE S sz r).2)

/-- The blocks that nobody writes: old ones by 'prov', none that is in 'h'. -/
def stb (prov : Nat → Prop) (w : World) (β : Nat → Value) (h : Nat → Option Blk) (g : Nat) : Prop :=
  g < w.heap.size ∧ prov g ∧ ∀ n b, h n = some b → blkOf (β n) ≠ some g

def Inj (β : Nat → Value) (h : Nat → Option Blk) : Prop :=
  ∀ n m b b' g, h n = some b → h m = some b' → blkOf (β n) = some g → blkOf (β m) = some g → n = m

def listH : List (Nat × Blk) → Nat → Option Blk
  | [], _ => none
  | (k, b) :: r, n => if n = k then some b else listH r n

def Vals (st : Nat → Prop) (β : Nat → Value) (w : World) (asz : List AV) (cs : List Value) : Prop :=
  asz.length = cs.length ∧ ∀ j, j < asz.length → SimV st β w (av asz j) (cv cs j)

def Callable (P : Program) (f : FuncId) : Prop := ∃ fn, P.funcs[f]? = some fn ∧ fn.body.isSome = true ∧ (fn.name == "runtime.NumGoroutine") = false

/-- What a call does: it hands back 'r'; of the blocks 'hl' it turns those of 'ups'; the name 'nm' is free for a new one. -/
def CallC (P : Program) (f : FuncId) (args : List AV) (hl : List (Nat × Blk)) (nm : Nat) (r : AV) (ups : List (Nat × Option Blk)) : Prop :=
  Callable P f ∧ ∀ (prov : Nat → Prop) (β : Nat → Value) (w : World) (cs : List Value), β nm = undef → (∀ n b, listH hl n = some b → BlkRep (stb prov w β (listH hl)) β w b (β n)) → Inj β (listH hl) →
    Vals (stb prov w β (listH hl)) β w args cs →
    Calls P f cs.toArray w fun e w' => ∃ c β', e = .returned c ∧ w'.os = w.os ∧ w'.tape = w.tape ∧ w'.output = w.output ∧ w.heap.size ≤ w'.heap.size ∧ Grows β β' ∧ (∀ n, n ≠ nm → β' n = β n) ∧
      (∀ g, g < w.heap.size → (∀ n b, listH hl n = some b → n ∈ ups.map (·.1) → blkOf (β n) ≠ some g) → w'.heap[g]? = w.heap[g]?) ∧
      SimV (stb (fun g => prov g ∨ w.heap.size ≤ g) w' β' (updL (listH hl) ups)) β' w' r c ∧
      (∀ n b, updL (listH hl) ups n = some b → n ∈ ups.map (·.1) → BlkRep (stb (fun g => prov g ∨ w.heap.size ≤ g) w' β' (updL (listH hl) ups)) β' w' b (β' n) ∧
        ∀ g, blkOf (β' n) = some g → w.heap.size ≤ g ∨ ∃ m b', listH hl m = some b' ∧ m ∈ ups.map (·.1) ∧ blkOf (β m) = some g) ∧
      Inj β' (updL (listH hl) ups)

/-- What a prover says of a call. -/
structure Ans where
  r : AV
  ups : List (Nat × Option Blk)
  hl : List (Nat × Blk)
  deriving Inhabited

def effCall (P : Program) (S : AState) (nm : Nat) (an : Ans) (f : FuncId) (args : List AV) : Eff :=
  ⟨(∀ p ∈ an.hl, S.h p.1 = some p.2) ∧ (∀ p ∈ an.ups, p.1 = nm ∨ p.1 ∈ an.hl.map (·.1)) ∧ nm ∉ an.hl.map (·.1) ∧ CallC P f args an.hl nm an.r an.ups, an.r, an.ups, an.hl.map (·.1)⟩

def effCallV (P : Program) (S : AState) (nm : Nat) (an : Ans) (args : List AV) : AV → Eff
  | .fn f caps => effCall P S nm an f (args ++ caps)
  | _ => .fail

def AOp.eff (P : Program) (nm : Nat) (S : AState) (an : Ans) : AOp → Eff
  | .mv x => .ret (evo S x)
  | .pick c a b => effPick (evo S c) (evo S a) (evo S b)
  | .alloc zs => ⟨True, .bp nm 0, [(nm, some (.box (zs.map AV.ofV)))], []⟩
  | .box n x => ⟨(evo S x).okCells ∧ (evo S x).cells.length = n, .bp nm 0, [(nm, some (.box (evo S x).cells))], []⟩
  | .build zs parts => .iff (buildE S parts (zs.map AV.ofV)).1 (.agg (buildE S parts (zs.map AV.ofV)).2)
  | .buildSlice e sz parts => pickB an.r ⟨parts ≠ [] ∧ (rowE S sz parts).1, .slf (rowE S sz parts).2 sz e, [], []⟩ ⟨(rowE S sz parts).1, .own nm, [(nm, some (.row (rowE S sz parts).2 sz e))], []⟩
  | .load n agg x => effLoad S.h n agg (evo S x)
  | .store n p x => pickB an.r (effStoreX S.h n (evo S p) (evo S x)) (effStore S.h n (evo S p) (evo S x))
  | .bin op x y => effBin op (evo S x) (evo S y)
  | .eqAgg neg ks x y => effEqAgg neg ks (evo S x) (evo S y)
  | .eqB neg x y => effEqB neg (evo S x) (evo S y)
  | .un op x => effUn op (evo S x)
  | .fieldAddr o x => effFieldAddr o (evo S x)
  | .field o n agg x => effField o n agg (evo S x)
  | .idxAddr sz x i => effIdxAddr S.h sz (evo S i) (evo S x)
  | .idxStr x i => effIdxStr (evo S x) (evo S i)
  | .idxArr ln sz agg x i => effIdxArr ln sz agg (evo S x) (evo S i)
  | .idxPtr ln sz x i => effIdxPtr ln sz (evo S i) (evo S x)
  | .slice sz x lo hi => effSliceO S.h sz (lo.map (evo S)) (hi.map (evo S)) (evo S x)
  | .sliceStr x lo hi => effSliceStr (lo.map (evo S)) (hi.map (evo S)) (evo S x)
  | .slice0 x => effSlice0 (evo S x)
  | .clear sz zs x => effClear S.h sz zs (evo S x)
  | .copy sz p x => effCopy S.h sz (evo S p) (evo S x)
  | .len x => effLen S.h (evo S x)
  | .lenStr x => effLenStr (evo S x)
  | .append e sz bytes s x => pickB an.r (effAppendK S.h e sz bytes (evo S s) (evo S x)) (effAppend S.h nm e sz bytes (evo S s) (evo S x))
  | .minmax mx x y => effMinMax mx (evo S x) (evo S y)
  | .call f args => effCall P S nm an f (args.map (evo S))
  | .callv x args => effCallV P S nm an (args.map (evo S)) (evo S x)
  | .extract x i => effExtract i (evo S x)
  | .mkfn f caps => .ret (.fn f (caps.map (evo S)))
  | .conv k x => effConv k (evo S x)
  | .make e sz bytes zs n => effMake nm e sz bytes zs (evo S n)
  | .range x => effRange nm (evo S x)
  | .next x => effNext S.h (evo S x)
  | .mapMake => effMapMake nm
  | .mapLen x => effMapLen S.h (evo S x)
  | .mapGet z ok x k => effMapGet S.h z ok (evo S x) (evo S k)
  | .mapPut x k v => effMapPut S.h (evo S v) (evo S x) (evo S k)
  | .mapDel x k => effMapDel S.h (evo S x) (evo S k)
  | .bad => .fail

def AOp.isCall : AOp → Bool
  | .call .. | .callv .. => true
  | _ => false

structure AOper where
  dst : Option Nat
  op : AOp
  guard : Option (Nat × Bool)
  deps : List Nat
  deriving Inhabited

inductive ACode
  | skip
  | region (draw : Bool) (ops : List AOper)
  | seq (a b : ACode)
  | cond (c : AOpd) (a b : ACode)
  | block (id : Nat) (c : ACode)
  | loop (c : ACode)
  | exit (id : Nat)
  | scope (c : ACode)
  | ret
  deriving Inhabited

def putT (f : Nat → AV) (dst : Option Nat) (x : AV) : Nat → AV :=
  match dst with
  | some d => upd f d x
  | none => f
def AState.put (S : AState) (dst : Option Nat) (x : AV) : AState := ⟨putT S.t dst x, S.h⟩
def AState.app (S : AState) (dst : Option Nat) (e : Eff) : AState := ⟨putT S.t dst e.val, updL S.h e.ups⟩

end Go.Ab
namespace Go.Ab

def compOpd : Operand → Option AOpd
  | .tmp t => some (.t t)
  | .const v => some (.c v)
  | .func f => some (.f f)
  | .global _ => none

def isAggB (P : Program) (t : TypeId) : Bool := match P.underlying t with
  | some (.struct _) | some (.array _ _) => true
  | _ => false

/-- A struct whose fields are integers, strings and bools, in their order, without gaps: '==' compares the cells. -/
def flatFields (P : Program) : List Field → Nat → Option Nat
  | [], o => some o
  | f :: r, o => if f.offset = o ∧ f.name ≠ "_" ∧ P.cellsOf f.type = 1 ∧ (match P.underlying f.type with | some (.int _) | some .string | some .bool => true | _ => false) = true then flatFields P r (o + 1) else none

/-- The kinds of the cells of a comparable type; none where it is not covered. -/
def fieldKinds (P : Program) (S : TypeId → Option (List Nat)) : List Field → Nat → Option (List Nat)
  | [], _ => some []
  | f :: fs, off => match S f.type, P.info? f.type, P.underlying f.type with
    | some ks, some i, some _ => if f.offset = off ∧ f.name ≠ "_" ∧ i.size = ks.length ∧ 0 < ks.length ∧ (isAggB P f.type = true ∨ i.size = 1) then (fieldKinds P S fs (off + ks.length)).map (ks ++ ·) else none
    | _, _, _ => none
def eqKinds (P : Program) : Nat → TypeId → Option (List Nat)
  | 0, _ => none
  | n + 1, t => match P.underlying t with
    | some (.int _) => if isAggB P t = false then some [0] else none
    | some .bool => if isAggB P t = false then some [1] else none
    | some .string => if isAggB P t = false then some [2] else none
    | some (.struct fs) => if isAggB P t = true ∧ P.stoodInHeld t = false then fieldKinds P (eqKinds P n) fs.toList 0 else none
    | _ => none

def optOpd : Option Operand → Option (Option AOpd)
  | none => some none
  | some x => (compOpd x).map some

def partsOf (P : Program) (place : Nat → Option (Nat × Nat)) : List (Nat × Operand) → Option (List (Nat × Nat × AOpd))
  | [] => some []
  | (i, x) :: r => match place i, compOpd x, partsOf P place r with
    | some (o, n), some y, some ys => some ((o, n, y) :: ys)
    | _, _, _ => none

def inRow : List (Nat × Operand) → Nat → Option (List AOpd)
  | [], _ => some []
  | (i, x) :: r, k => if i = k then match compOpd x, inRow r (k + 1) with
      | some y, some ys => some (y :: ys)
      | _, _ => none
    else none

/-- The zero of a map's elements. -/
def zeroEl (P : Program) (e : TypeId) : Option AV := match (P.info? e).bind (·.zero) with
  | some (.agg cs) => if cs.all (·.oneCell') = true then some (.agg (cs.toList.map AV.ofV)) else none
  | some z => some (AV.ofV z)
  | none => none
/-- A map whose keys are strings: the type of its elements. -/
def strMap (P : Program) (t : TypeId) : Option TypeId := match P.underlying t with
  | some (.map k e) => match P.underlying k with
    | some .string => some e
    | _ => none
  | _ => none
def compBuiltin (P : Program) (b : Builtin) (args : List Operand) (types : List TypeId) : Option AOp :=
  match b, args, types with
  | .len, [x], [t] => match P.underlying t, compOpd x with
    | some (.slice _), some y => some (.len y)
    | some .string, some y => some (.lenStr y)
    | some (.map _ _), some y => some (.mapLen y)
    | _, _ => none
  | .delete, [m, k], [t, _] => match strMap P t, compOpd m, compOpd k with
    | some _, some y, some z => some (.mapDel y z)
    | _, _, _ => none
  | .append, [s, x], [t, t'] => if t = t' then match P.underlying t, compOpd s, compOpd x with
      | some (.slice e), some y, some z => match P.info? e with
        | some i => if 0 < i.size ∧ 1 ≤ i.bytes ∧ (i.zero.map fun z => z.cells.size) = some i.size then some (.append e i.size i.bytes y z) else none
        | none => none
      | _, _, _ => none
    else none
  | .clear, [x], [t] => match P.underlying t, compOpd x with
    | some (.slice e), some y => match P.info? e with
      | some i => match i.zero with
        | some z => if 0 < i.size ∧ z.cells.size = i.size ∧ z.cells.all (·.oneCell') = true then some (.clear i.size z.cells.toList y) else none
        | none => none
      | none => none
    | _, _ => none
  | .copy, [p, x], [t, _] => match P.underlying t, compOpd p, compOpd x with
    | some (.slice e), some y, some z => match P.info? e with
      | some i => if 0 < i.size then some (.copy i.size y z) else none
      | none => none
    | _, _, _ => none
  | .min, [x, y], _ => match compOpd x, compOpd y with
    | some a, some b => some (.minmax false a b)
    | _, _ => none
  | .max, [x, y], _ => match compOpd x, compOpd y with
    | some a, some b => some (.minmax true a b)
    | _, _ => none
  | _, _, _ => none

def compOp (P : Program) : Op → Option AOp
  | .move x | .assign x => (compOpd x).map .mv
  | .pick c a b => match compOpd c, compOpd a, compOpd b with
    | some c, some a, some b => some (.pick c a b)
    | _, _, _ => none
  | .alloc e => match (P.info? e).bind (·.zero) with
    | some z => if z.cells.all (·.oneCell') then some (.alloc z.cells.toList) else none
    | none => none
  | .box e x => (compOpd x).map (.box (P.cellsOf e))
  | .build t parts => match P.info? t, P.underlying t with
    | some i, some (.struct fs) => match i.zero, fs.toList.mapM (fun f => (P.info? f.type).map fun i => (f.offset, i.size)) with
      | some z, some places => match partsOf P (places.toArray[·]?) parts.toList with
        | some ps => if z.cells.all (·.oneCell') then some (.build z.cells.toList ps) else none
        | none => none
      | _, _ => none
    | some i, some (.array _ e) => match i.zero, P.info? e with
      | some z, some ie => match partsOf P (fun i => some (i * ie.size, ie.size)) parts.toList with
        | some ps => if z.cells.all (·.oneCell') then some (.build z.cells.toList ps) else none
        | none => none
      | _, _ => none
    | _, _ => none
  | .buildSlice t len parts => match P.underlying t with
    | some (.slice e) => match P.info? e, inRow parts.toList 0 with
      | some i, some ps => match i.zero with
        | some z => if ps.length = len ∧ 0 < i.size ∧ len * i.size ≤ 65536 ∧ z.cells.size = i.size then some (.buildSlice e i.size ps) else none
        | none => none
      | _, _ => none
    | _ => none
  | .load t x => match compOpd x, P.info? t, P.underlying t with
    | some y, some i, some _ => if isAggB P t = true ∨ i.size = 1 then some (.load i.size (isAggB P t) y) else none
    | _, _, _ => none
  | .store t a x => match compOpd a, compOpd x, P.info? t with
    | some p, some y, some i => some (.store i.size p y)
    | _, _, _ => none
  | .binOp op t x y _ => match compOpd x, compOpd y with
    | some a, some b => match op, P.underlying t with
      | .eql, some .bool => some (.eqB false a b)
      | .neq, some .bool => some (.eqB true a b)
      | .eql, some .string | .neq, some .string | .eql, some (.int _) | .neq, some (.int _) => some (.bin op a b)
      | .eql, some (.struct _) => match eqKinds P 20 t with
        | some ks => if P.eqGuardType P.depth t = false then some (.eqAgg false ks a b) else none
        | none => none
      | .neq, some (.struct _) => match eqKinds P 20 t with
        | some ks => if P.eqGuardType P.depth t = false then some (.eqAgg true ks a b) else none
        | none => none
      | .eql, _ | .neq, _ => none
      | .shl, _ | .shr, _ | .and, _ | .or, _ | .xor, _ | .andNot, _ => none
      | _, _ => some (.bin op a b)
    | _, _ => none
  | .unOp op _ x => (compOpd x).map (.un op)
  | .convert src dst x => match compOpd x, P.underlying src, P.underlying dst with
    | some y, some (.int _), some (.int k) => some (.conv k y)
    | _, _, _ => none
  | .makeFunc (.func f) first caps => if first.size = 0 then (caps.toList.mapM compOpd).map (.mkfn f) else none
  | .makeSlice t l c => match P.underlying t, compOpd l, compOpd c with
    | some (.slice e), some (.t a), some (.t b) => if a = b then match P.info? e with
        | some i => match i.zero with
          | some z => if 0 < i.size ∧ z.cells.size = i.size ∧ z.cells.all (·.oneCell') = true then some (.make e i.size i.bytes z.cells.toList (.t a)) else none
          | none => none
        | none => none
      else none
    | _, _, _ => none
  | .slice t x lo hi mx => match P.underlying t, compOpd x, optOpd lo, optOpd hi, mx with
    | some (.slice e), some y, some l, some h, none => match P.info? e with
      | some i => some (.slice i.size y l h)
      | none => none
    | some (.slice e), some y, some none, some (some (.c (.int .i64 0))), some (.const (.int .i64 0)) => match P.info? e with
      | some _ => some (.slice0 y)
      | none => none
    | some .string, some y, some l, some h, none => some (.sliceStr y l h)
    | _, _, _, _, _ => none
  | .fieldAddr t x f => match P.underlying t, compOpd x with
    | some (.struct fs), some y => match fs[f]? with
      | some fd => match P.info? fd.type with
        | some i => if i.size = 0 then none else some (.fieldAddr fd.offset y)
        | none => none
      | none => none
    | _, _ => none
  | .field t x f => match P.underlying t, compOpd x with
    | some (.struct fs), some y => match fs[f]? with
      | some fd => match P.info? fd.type, P.underlying fd.type with
        | some i, some _ => if isAggB P fd.type = true ∨ i.size = 1 then some (.field fd.offset i.size (isAggB P fd.type) y) else none
        | _, _ => none
      | none => none
    | _, _ => none
  | .indexAddr t x i => match P.underlying t, compOpd x, compOpd i with
    | some (.slice e), some y, some j => match P.info? e with
      | some i => some (.idxAddr i.size y j)
      | none => none
    | some (.array n e), some y, some j => match P.info? e with
      | some i => if 1 < n ∧ 0 < i.size then some (.idxPtr n i.size y j) else none
      | none => none
    | _, _, _ => none
  | .index t x i => match P.underlying t, compOpd x, compOpd i with
    | some .string, some y, some j => some (.idxStr y j)
    | some (.array n e), some y, some j => match P.info? e, P.underlying e with
      | some i, some _ => if isAggB P e = true ∨ i.size = 1 then some (.idxArr n i.size (isAggB P e) y j) else none
      | _, _ => none
    | _, _, _ => none
  | .extract x i => (compOpd x).map fun y => .extract y i
  | .makeMap _ none => some .mapMake
  | .lookup t x k ok => match strMap P t, compOpd x, compOpd k with
    | some e, some y, some j => (zeroEl P e).map fun z => .mapGet z ok y j
    | _, _, _ => none
  | .mapUpdate t m k x => match strMap P t, compOpd m, compOpd k, compOpd x with
    | some _, some y, some j, some z => some (.mapPut y j z)
    | _, _, _, _ => none
  | .insert t m k x => match strMap P t, compOpd m, compOpd k, compOpd x with
    | some _, some y, some j, some z => some (.mapPut y j z)
    | _, _, _, _ => none
  | .range t x => match P.underlying t, compOpd x with
    | some .string, some y => some (.range y)
    | _, _ => none
  | .next x b => match b with
    | true => (compOpd x).map .next
    | false => none
  | .call c => match c.callee with
    | .builtin b => compBuiltin P b c.args.toList c.argTypes.toList
    | .value (.func f) => match P.funcs[f]? with
      | some fn => if fn.body.isSome = true ∧ (fn.name == "runtime.NumGoroutine") = false then (c.args.toList.mapM compOpd).map (.call f) else none
      | none => none
    | .value x => match compOpd x with
      | some y => (c.args.toList.mapM compOpd).map (.callv y)
      | none => none
    | .invoke .. => none
  | _ => none

def compGuard (ops : Array Oper) : Option (Nat × Bool) → Option (Option (Nat × Bool))
  | none => some none
  | some (j, want) => match (ops[j]?).bind (·.dst) with
    | some d => some (some (d, want))
    | none => none

def compOper (P : Program) (draw : Bool) (ops : Array Oper) (o : Oper) : Option AOper :=
  match compGuard ops o.guard with
  | some g => some { dst := o.dst, op := (compOp P o.op).getD .bad, guard := g, deps := if draw then (o.after.toList.filter (Region.binds .any)).map (·.on) else [] }
  | none => none

def compCode (P : Program) : Code → Option ACode
  | .skip => some .skip
  | .region _ ops draw => (ops.toList.mapM (compOper P draw ops)).map (.region draw)
  | .seq a b => match compCode P a, compCode P b with
    | some x, some y => some (.seq x y)
    | _, _ => none
  | .cond c a b => match compOpd c, compCode P a, compCode P b with
    | some z, some x, some y => some (.cond z x y)
    | _, _, _ => none
  | .block id c => (compCode P c).map (.block id)
  | .loop c => (compCode P c).map .loop
  | .exit id => some (.exit id)
  | .scope c => (compCode P c).map .scope
  | .ret => some .ret
  | _ => none

end Go.Ab
namespace Go.Ab
open Go.RowKit

structure Entry where
  w0 : World
  β0 : Nat → Value
  prov : Nat → Prop
  may : Nat → Prop
  n : Nat

def Entry.now (E : Entry) (g : Nat) : Prop := E.prov g ∨ E.w0.heap.size ≤ g
def Entry.st (E : Entry) (w : World) (β : Nat → Value) (h : Nat → Option Blk) : Nat → Prop := stb E.now w β h

structure Sim (E : Entry) (fr : Nat → Prop) (S : AState) (β : Nat → Value) (a : Act) (w : World) : Prop where
  tm : ∀ t, SimV (E.st w β S.h) β w (S.t t) (a.tmps.getD t undef)
  sz : a.tmps.size = E.n
  df : a.defers = []
  bl : ∀ n b, S.h n = some b → BlkRep (E.st w β S.h) β w b (β n)
  inj : Inj β S.h
  fresh : ∀ n, fr n → β n = undef
  mine : ∀ n b g, S.h n = some b → blkOf (β n) = some g → E.may g ∨ E.w0.heap.size ≤ g
  os : w.os = E.w0.os
  tape : w.tape = E.w0.tape
  out : w.output = E.w0.output
  size : E.w0.heap.size ≤ w.heap.size
  keep : ∀ g, g < E.w0.heap.size → ¬ E.may g → w.heap[g]? = E.w0.heap[g]?
  grow : Grows E.β0 β

theorem BlkRep.lt {st : Nat → Prop} {β : Nat → Value} {w : World} {b : Blk} {c : Value} (h : BlkRep st β w b c) {g : Nat} (hg : blkOf c = some g) : g < w.heap.size := by
  cases b with
  | box cs =>
    obtain ⟨g', ty, xs, rfl, hh, _⟩ := h
    simp [blkOf] at hg
    subst hg
    exact (Array.getElem?_eq_some_iff.1 hh).1
  | row es sz e =>
    obtain ⟨xs, _, _, hr, _⟩ := h
    rcases hr with ⟨a, rfl, _⟩ | ⟨g', cap, rfl, h0, hr⟩
    · cases a <;> simp [blkOf] at hg
    · simp [blkOf] at hg
      have := hr.lt g' rfl
      rw [← hg.2]
      exact this.2
  | iter s pos =>
    obtain ⟨g', rfl, hh⟩ := h
    simp [blkOf] at hg
    subst hg
    exact (Array.getElem?_eq_some_iff.1 hh).1
  | rowX es sz e =>
    obtain ⟨xs, _, _, hr, _⟩ := h
    rcases hr with ⟨a, rfl, _⟩ | ⟨g', cap, rfl, h0, hr⟩
    · cases a <;> simp [blkOf] at hg
    · simp [blkOf] at hg
      have := hr.lt g' rfl
      rw [← hg.2]
      exact this.2
  | map ks vs =>
    obtain ⟨g', f, rfl, ⟨es, clock, hh, _⟩, _⟩ := h
    simp [blkOf] at hg
    subst hg
    exact (Array.getElem?_eq_some_iff.1 hh).1
  | rowS es ys sz e =>
    obtain ⟨⟨xs, _, _, hr, _⟩, _⟩ := h
    rcases hr with ⟨a, rfl, _⟩ | ⟨g', cap, rfl, h0, hr⟩
    · cases a <;> simp [blkOf] at hg
    · simp [blkOf] at hg
      have := hr.lt g' rfl
      rw [← hg.2]
      exact this.2

theorem BlkRep.named {st : Nat → Prop} {β : Nat → Value} {w : World} {b : Blk} {c : Value} (h : BlkRep st β w b c) : c ≠ undef := by
  cases b with
  | box cs => obtain ⟨g', ty, xs, rfl, _⟩ := h; simp [undef]
  | row es sz e =>
    obtain ⟨xs, _, _, hr, _⟩ := h
    rcases hr with ⟨a, rfl, _⟩ | ⟨g', cap, rfl, h0, hr⟩ <;> simp [undef]
  | iter s pos => obtain ⟨g', rfl, _⟩ := h; simp [undef]
  | rowX es sz e =>
    obtain ⟨xs, _, _, hr, _⟩ := h
    rcases hr with ⟨a, rfl, _⟩ | ⟨g', cap, rfl, h0, hr⟩ <;> simp [undef]
  | map ks vs => obtain ⟨g', f, rfl, _⟩ := h; simp [undef]
  | rowS es ys sz e =>
    obtain ⟨⟨xs, _, _, hr, _⟩, _⟩ := h
    rcases hr with ⟨a, rfl, _⟩ | ⟨g', cap, rfl, h0, hr⟩ <;> simp [undef]

/-- One step, whatever it does to memory: 'W': the blocks that are written, each an own one; every block that lives behind it lived before and is not written, or is given anew. -/
theorem Sim.step {E : Entry} {fr fr' : Nat → Prop} {S S' : AState} {β β' : Nat → Value} {a a' : Act} {w w' : World} (s : Sim E fr S β a w)
    (W : Nat → Prop) (hW : ∀ g, W g → ∃ n b, S.h n = some b ∧ blkOf (β n) = some g)
    (hos : w'.os = w.os) (htape : w'.tape = w.tape) (hout : w'.output = w.output) (hsz : w.heap.size ≤ w'.heap.size)
    (hkeep : ∀ g, g < w.heap.size → ¬ W g → w'.heap[g]? = w.heap[g]?)
    (hβ : Grows β β') (hfr : ∀ n, fr' n → β' n = undef)
    (hH : ∀ n b, S'.h n = some b → (S.h n = some b ∧ ∀ g, blkOf (β n) = some g → ¬ W g) ∨ ((stOk : ∀ g, E.st w β S.h g → E.st w' β' S'.h g) → BlkRep (E.st w' β' S'.h) β' w' b (β' n)) ∧ ∀ g, blkOf (β' n) = some g → w.heap.size ≤ g ∨ W g)
    (hInj : Inj β' S'.h)
    (hn : a'.tmps.size = a.tmps.size) (hd : a'.defers = [])
    (ht : (∀ g, E.st w β S.h g → E.st w' β' S'.h g ∧ w'.heap[g]? = w.heap[g]?) → ∀ t, SimV (E.st w' β' S'.h) β' w' (S'.t t) (a'.tmps.getD t undef)) :
    Sim E fr' S' β' a' w' := by
  have keepSt : ∀ g, E.st w β S.h g → E.st w' β' S'.h g ∧ w'.heap[g]? = w.heap[g]? := by
    intro g ⟨hlt, hp, hno⟩
    have hnW : ¬ W g := fun hw => by obtain ⟨n, b, h1, h2⟩ := hW g hw; exact hno n b h1 h2
    refine ⟨⟨Nat.lt_of_lt_of_le hlt hsz, hp, fun n b hb => ?_⟩, hkeep g hlt hnW⟩
    rcases hH n b hb with ⟨h1, _⟩ | ⟨_, h2⟩
    · have := hno n b h1
      rwa [hβ n (s.bl n b h1).named]
    · intro hg
      rcases h2 g hg with h3 | h3
      · omega
      · exact hnW h3
  refine ⟨ht keepSt, by rw [hn]; exact s.sz, hd, fun n b hb => ?_, hInj, hfr, fun n b g hb hg => ?_, hos.trans s.os, htape.trans s.tape, hout.trans s.out, Nat.le_trans s.size hsz, fun g hg hm => ?_, s.grow.trans hβ⟩
  · rcases hH n b hb with ⟨h1, h2⟩ | ⟨h1, _⟩
    · have hr := s.bl n b h1
      rw [hβ n hr.named]
      exact hr.mono hβ keepSt (fun g hg => hkeep g (hr.lt hg) (h2 g hg))
    · exact h1 (fun g hg => (keepSt g hg).1)
  · rcases hH n b hb with ⟨h1, h2⟩ | ⟨_, h2⟩
    · rw [hβ n (s.bl n b h1).named] at hg
      exact s.mine n b g h1 hg
    · rcases h2 g hg with h3 | h3
      · exact .inr (Nat.le_trans s.size h3)
      · obtain ⟨m, b', h4, h5⟩ := hW g h3
        exact s.mine m b' g h4 h5
  · have hnW : ¬ W g := fun hw => by
      obtain ⟨m, b', h4, h5⟩ := hW g hw
      rcases s.mine m b' g h4 h5 with h6 | h6
      · exact hm h6
      · omega
    rw [hkeep g (Nat.lt_of_lt_of_le hg s.size) hnW]
    exact s.keep g hg hm

theorem sim_put {st : Nat → Prop} {β : Nat → Value} {w : World} {f : Nat → AV} {a : Act} (ht : ∀ t, SimV st β w (f t) (a.tmps.getD t undef)) (dst : Option Nat) (hd : ∀ d, dst = some d → d < a.tmps.size) {x : AV} {c : Value} (hx : SimV st β w x c) :
    ∀ t, SimV st β w (putT f dst x t) ((a.put dst c).tmps.getD t undef) := by
  intro t
  cases dst with
  | none => exact ht t
  | some d =>
    have hd := hd d rfl
    simp only [putT, Act.put, upd]
    by_cases h : t = d
    · subst h
      simp only [if_true]
      rw [Array.getD_eq_getD_getElem?, Array.getElem?_setIfInBounds_self_of_lt hd]
      exact hx
    · rw [if_neg h, Array.getD_eq_getD_getElem?, Array.getElem?_setIfInBounds_ne (fun e => h e.symm), ← Array.getD_eq_getD_getElem?]
      exact ht t

theorem size_put (a : Act) (dst : Option Nat) (c : Value) : (a.put dst c).tmps.size = a.tmps.size := by cases dst <;> simp [Act.put]
theorem defers_put (a : Act) (dst : Option Nat) (c : Value) : (a.put dst c).defers = a.defers := by cases dst <;> simp [Act.put]

/-- A step that leaves memory alone (but for draws). -/
theorem Sim.same {E : Entry} {fr : Nat → Prop} {S : AState} {β : Nat → Value} {a : Act} {w : World} (s : Sim E fr S β a w) (dst : Option Nat) (hd : ∀ d, dst = some d → d < a.tmps.size) {x : AV} {c : Value}
    (hx : SimV (E.st w β S.h) β w x c) : Sim E fr (S.put dst x) β (a.put dst c) w := by
  exact ⟨sim_put s.tm dst hd hx, by rw [size_put]; exact s.sz, by rw [defers_put]; exact s.df, s.bl, s.inj, s.fresh, s.mine, s.os, s.tape, s.out, s.size, s.keep, s.grow⟩

theorem Sim.drew {E : Entry} {fr : Nat → Prop} {S : AState} {β : Nat → Value} {a : Act} {w : World} (s : Sim E fr S β a w) : Sim E fr S β a { w with drawn := w.drawn + 1 } := by
  have hst : ∀ g, E.st w β S.h g → E.st { w with drawn := w.drawn + 1 } β S.h g ∧ ({ w with drawn := w.drawn + 1 } : World).heap[g]? = w.heap[g]? := fun g h => ⟨h, rfl⟩
  exact ⟨fun t => (s.tm t).mono (Grows.refl _) hst, s.sz, s.df, fun n b hb => (s.bl n b hb).mono (Grows.refl _) hst (fun _ _ => rfl), s.inj, s.fresh, s.mine, s.os, s.tape, s.out, s.size, s.keep, s.grow⟩

/-- A new block. -/
theorem Sim.alloc {E : Entry} {fr : Nat → Prop} {S : AState} {β : Nat → Value} {a : Act} {w : World} (s : Sim E fr S β a w) (dst : Option Nat) (hd : ∀ d, dst = some d → d < a.tmps.size)
    {nm : Nat} (hf : fr nm) {w' : World} (c : Value) (b : Blk) (x : AV)
    (hos : w'.os = w.os) (htape : w'.tape = w.tape) (hout : w'.output = w.output) (hsz : w.heap.size ≤ w'.heap.size)
    (hkeep : ∀ g, g < w.heap.size → w'.heap[g]? = w.heap[g]?)
    (hx : ∀ st β', β' nm = c → SimV st β' w' x c)
    (hnew : ∀ g, blkOf c = some g → w.heap.size ≤ g)
    (hb : ∀ st β', (∀ g, E.st w β S.h g → st g) → Grows β β' → BlkRep st β' w' b c) :
    Sim E (fun n => fr n ∧ n ≠ nm) ⟨putT S.t dst x, upd S.h nm (some b)⟩ (upd β nm c) (a.put dst c) w' := by
  have hβu : β nm = undef := s.fresh nm hf
  have hg : Grows β (upd β nm c) := fun n hn => by
    unfold upd; split
    · rename_i h; subst h; exact absurd hβu hn
    · rfl
  refine s.step (fun _ => False) (fun _ h => h.elim) hos htape hout hsz (fun g h _ => hkeep g h) hg (fun n hn => ?_) (fun n b' hb' => ?_) ?_ (size_put _ _ _) (by rw [defers_put]; exact s.df) (fun hst => ?_)
  · unfold upd; rw [if_neg hn.2]; exact s.fresh n hn.1
  · simp only [upd] at hb'
    split at hb'
    · rename_i h
      subst h
      simp only [Option.some.injEq] at hb'
      subst hb'
      exact .inr ⟨fun ok => by simp only [upd, if_true]; exact hb _ _ ok hg, fun g hgb => .inl (by simp only [upd, if_true] at hgb; exact hnew g hgb)⟩
    · exact .inl ⟨hb', fun _ _ => id⟩
  · intro n m b1 b2 g h1 h2 g1 g2
    simp only [upd] at h1 h2 g1 g2
    by_cases e1 : n = nm <;> by_cases e2 : m = nm <;> simp only [e1, e2, if_true, if_false] at h1 h2 g1 g2 ⊢
    · have := hnew g g1
      have := (s.bl m b2 h2).lt g2
      omega
    · have := hnew g g2
      have := (s.bl n b1 h1).lt g1
      omega
    · exact s.inj n m b1 b2 g h1 h2 g1 g2
  · have h1 : ∀ t, SimV (E.st w' (upd β nm c) (upd S.h nm (some b))) (upd β nm c) w' (S.t t) (a.tmps.getD t undef) := fun t => (s.tm t).mono hg hst
    exact sim_put h1 dst hd (hx _ _ (by simp [upd]))

end Go.Ab
namespace Go.Ab
open Go.RowKit

section inv
variable {st : Nat → Prop} {β : Nat → Value} {w : World} {c : Value}
theorem SimV.v_inv {x : Value} (h : SimV st β w (.v x) c) : c = x := by
  cases h with
  | pure p => cases p; rfl
theorem SimV.nils_inv (h : SimV st β w .nils c) : ∃ a, c = .slice a 0 0 := by
  cases h with
  | pure p => cases p with | nils a => exact ⟨a, rfl⟩
theorem SimV.sl_inv {es : List (List AV)} (h : SimV st β w (.sl es) c) : PureV st w (.sl es) c := by
  cases h with
  | pure p => exact p
theorem SimV.rp_inv {cs : List AV} (h : SimV st β w (.rp cs) c) : ∃ g off, ∃ f : Nat → Value, c = .pointer (some ⟨g, off, none⟩) ∧ st g ∧
    (∀ j, j < cs.length → w.cell? ⟨g, off + j, none⟩ = some (f j) ∧ (f j).oneCell' = true) ∧ ∀ j, j < cs.length → PureV st w (av cs j) (f j) := by
  cases h with
  | pure p => cases p with | rp cs g off f hst hc hr => exact ⟨g, off, f, rfl, hst, hc, hr⟩
theorem SimV.agg_inv {cs : List AV} (h : SimV st β w (.agg cs) c) : ∃ xs : List Value, c = .agg xs.toArray ∧ cs.length = xs.length ∧ (∀ x ∈ xs, x.oneCell' = true) ∧ ∀ j, j < cs.length → SimV st β w (av cs j) (cv xs j) := by
  cases h with
  | pure p => cases p with | agg cs xs hl h1 hr => exact ⟨xs, rfl, hl, h1, fun j hj => .pure (hr j hj)⟩
  | agg cs xs hl h1 hr => exact ⟨xs, rfl, hl, h1, hr⟩
theorem SimV.tup_inv {cs : List AV} (h : SimV st β w (.tup cs) c) : ∃ xs : List Value, c = .tuple xs.toArray ∧ cs.length = xs.length ∧ ∀ j, j < cs.length → SimV st β w (av cs j) (cv xs j) := by
  cases h with
  | pure p => cases p with | tup cs xs hl hr => exact ⟨xs, rfl, hl, fun j hj => .pure (hr j hj)⟩
  | tup cs xs hl hr => exact ⟨xs, rfl, hl, hr⟩
theorem SimV.fn_inv {f : Nat} {cs : List AV} (h : SimV st β w (.fn f cs) c) : ∃ xs : List Value, c = .func (.func f) #[] xs.toArray ∧ cs.length = xs.length ∧ ∀ j, j < cs.length → SimV st β w (av cs j) (cv xs j) := by
  cases h with
  | pure p => cases p with | fn f cs xs hl hr => exact ⟨xs, rfl, hl, fun j hj => .pure (hr j hj)⟩
  | fn f cs xs hl hr => exact ⟨xs, rfl, hl, hr⟩
theorem SimV.own_inv {b : Nat} (h : SimV st β w (.own b) c) : c = β b ∧ ∃ a n cap, c = .slice a n cap := by
  cases h with
  | pure p => cases p
  | own b hb => exact ⟨hb.symm, _, _, _, rfl⟩
theorem SimV.pre_inv {b k : Nat} (h : SimV st β w (.pre b k) c) : ∃ a n cap cap', β b = .slice a n cap ∧ c = .slice a k cap' ∧ k ≤ cap' ∧ cap' ≤ maxLen := by
  cases h with
  | pure p => cases p
  | pre b k hb hk hm => exact ⟨_, _, _, _, hb, rfl, hk, hm⟩
theorem SimV.bp_inv {b o : Nat} (h : SimV st β w (.bp b o) c) : ∃ g, β b = .pointer (some ⟨g, 0, none⟩) ∧ c = .pointer (some ⟨g, o, none⟩) := by
  cases h with
  | pure p => cases p
  | bp b o hb => exact ⟨_, hb, rfl⟩
theorem SimV.suf_inv {b sz i : Nat} (h : SimV st β w (.suf b sz i) c) : ∃ a n cap, β b = .slice a n cap ∧ i ≤ n ∧ c = .slice (if cap = i then a else a.map (·.add (i * sz))) (n - i) (cap - i) := by
  cases h with
  | pure p => cases p
  | suf b sz i hb hi => exact ⟨_, _, _, hb, hi, rfl⟩
theorem SimV.slf_inv {es : List (List AV)} {sz : Nat} {e : TypeId} (h : SimV st β w (.slf es sz e) c) : ∃ g xs, c = .slice (some ⟨g, 0, none⟩) es.length es.length ∧ st g ∧ RowFits st w es sz e c xs := by
  cases h with
  | pure p => cases p
  | slf es sz e hst hf => exact ⟨_, _, rfl, hst, hf⟩
theorem SimV.mapv_inv {b : Nat} (h : SimV st β w (.mapv b) c) : ∃ g, β b = .map (some g) ∧ c = .map (some g) := by
  cases h with
  | pure p => cases p
  | mapv b hb => exact ⟨_, hb, rfl⟩
theorem SimV.ext_inv {b : Nat} {L : List (List AV)} (h : SimV st β w (.ext b L) c) : (∃ g n cap, β b = .slice (some ⟨g, 0, none⟩) n cap ∧ L.length ≤ cap ∧ c = .slice (some ⟨g, 0, none⟩) L.length cap) ∨ PureV st w (.sl L) c := by
  cases h with
  | pure p => cases p
  | extS b L hb hk => exact .inl ⟨_, _, _, hb, hk, rfl⟩
  | extP b L h => exact .inr h
theorem SimV.mpf_inv {ks : List ByteArray} {vs : List AV} (h : SimV st β w (.mpf ks vs) c) : ∃ g f, c = .map (some g) ∧ st g ∧ MapAt w g ks f ∧ vs.length = ks.length ∧ ∀ i, i < ks.length → PureV st w (av vs i) (f i) := by
  cases h with
  | pure p => cases p with | mpf ks vs g f hst hm hl hr => exact ⟨g, f, rfl, hst, hm, hl, hr⟩
theorem SimV.ep_inv {b sz i o : Nat} (h : SimV st β w (.ep b sz i o) c) : ∃ g n cap, β b = .slice (some ⟨g, 0, none⟩) n cap ∧ c = .pointer (some ⟨g, i * sz + o, none⟩) := by
  cases h with
  | pure p => cases p
  | ep b sz i o hb => exact ⟨_, _, _, hb, rfl⟩

theorem SimV.one {x : AV} (h : SimV st β w x c) (h1 : x.one) : c.oneCell' = true := by
  cases x with
  | any => exact h1.elim
  | v x => rw [h.v_inv]; exact h1
  | nils => obtain ⟨a, rfl⟩ := h.nils_inv; rfl
  | sl es => cases h.sl_inv <;> rfl
  | rp cs => obtain ⟨g, off, f, rfl, _⟩ := h.rp_inv; rfl
  | agg cs => exact h1.elim
  | tup cs => exact h1.elim
  | fn f cs => obtain ⟨xs, rfl, _⟩ := h.fn_inv; rfl
  | own b => obtain ⟨_, a, n, cap, rfl⟩ := h.own_inv; rfl
  | pre b k => obtain ⟨a, n, cap, cap', _, rfl, _⟩ := h.pre_inv; rfl
  | suf b sz i => exact h1.elim
  | ext b L => exact h1.elim
  | slf es sz e => obtain ⟨g, xs, rfl, _⟩ := h.slf_inv; rfl
  | mapv b => obtain ⟨g, _, rfl⟩ := h.mapv_inv; rfl
  | mpf ks vs => obtain ⟨g, f, rfl, _⟩ := h.mpf_inv; rfl
  | bp b o => obtain ⟨g, _, rfl⟩ := h.bp_inv; rfl
  | ep b sz i o => obtain ⟨g, n, cap, _, rfl⟩ := h.ep_inv; rfl

theorem SimV.flat {x : AV} (h : SimV st β w x c) (h1 : x.flat = true) : PureV st w x c := by
  cases h with
  | pure p => exact p
  | _ => simp [AV.flat] at h1

/-- The cells of a value. -/
theorem SimV.cells {x : AV} (h : SimV st β w x c) (h1 : x.okCells) : x.cells.length = c.cells.toList.length ∧ (∀ u ∈ c.cells.toList, u.oneCell' = true) ∧
    ∀ j, j < x.cells.length → SimV st β w (av x.cells j) (cv c.cells.toList j) := by
  by_cases hx : ∃ cs, x = .agg cs
  · obtain ⟨cs, rfl⟩ := hx
    obtain ⟨xs, rfl, hl, h1, hr⟩ := h.agg_inv
    exact ⟨by simpa [AV.cells, Value.cells] using hl, by simpa [Value.cells] using h1, by simpa [AV.cells, Value.cells] using hr⟩
  · have hone : x.one := by cases x <;> first | exact h1 | exact absurd ⟨_, rfl⟩ hx
    have hc := h.one hone
    have e1 : x.cells = [x] := by cases x <;> first | rfl | exact absurd ⟨_, rfl⟩ hx
    have e2 : c.cells = #[c] := by cases c <;> first | rfl | simp [Value.oneCell'] at hc
    rw [e1, e2]
    refine ⟨rfl, by simpa using hc, fun j hj => ?_⟩
    have : j = 0 := by simpa using hj
    subst this
    exact h
end inv

section opd
variable {E : Entry} {fr : Nat → Prop} {S : AState} {β : Nat → Value} {a : Act} {w : World}
theorem simv_ofV {st : Nat → Prop} {γ : Nat → Value} {u : World} (x : Value) : SimV st γ u (AV.ofV x) x := by
  unfold AV.ofV
  split
  · exact .pure (.nils none)
  · exact .pure (.v _)
theorem sim_evo (s : Sim E fr S β a w) {x : Operand} {y : AOpd} (h : compOpd x = some y) : SimV (E.st w β S.h) β w (evo S y) (a.eval x) := by
  cases x with
  | tmp t => simp [compOpd] at h; subst h; exact s.tm t
  | const v => simp [compOpd] at h; subst h; exact simv_ofV v
  | func f => simp [compOpd] at h; subst h; exact .pure (.fn f [] [] rfl (fun j hj => by simp at hj))
  | global g => simp [compOpd] at h
end opd

/-- Carried out, the operation does what its effect says. -/
def Does (P : Program) (E : Entry) (fr : Nat → Prop) (S : AState) (β : Nat → Value) (a : Act) (w : World) (nm : Nat) (o : Oper) (e : Eff) : Prop :=
  ∀ (K : Act → World → Prop) (Q : Exit → Act → World → Prop), (∀ β' c w', Sim E (fun n => fr n ∧ n ≠ nm) (S.app o.dst e) β' (a.put o.dst c) w' → K (a.put o.dst c) w') → o.wp P a w K Q

theorem Sim.less {E : Entry} {fr fr' : Nat → Prop} {S : AState} {β : Nat → Value} {a : Act} {w : World} (s : Sim E fr S β a w) (h : ∀ n, fr' n → fr n) : Sim E fr' S β a w :=
  ⟨s.tm, s.sz, s.df, s.bl, s.inj, fun n hn => s.fresh n (h n hn), s.mine, s.os, s.tape, s.out, s.size, s.keep, s.grow⟩

section does
variable {P : Program} {E : Entry} {fr : Nat → Prop} {S : AState} {β : Nat → Value} {a : Act} {w : World} {nm : Nat} {o : Oper}

theorem Does.value (s : Sim E fr S β a w) (hd : ∀ d, o.dst = some d → d < a.tmps.size) {e : Eff} {c : Value} (hrun : (execOp a.eval o).run P w = .ok (.value c) w)
    (hu : e.ups = []) (hx : SimV (E.st w β S.h) β w e.val c) : Does P E fr S β a w nm o e := by
  intro K Q hK
  unfold Oper.wp
  rw [hrun, Oper.upon_value]
  refine hK β c w ?_
  unfold AState.app
  rw [hu]
  exact (s.same o.dst hd hx).less (fun n h => h.1)

theorem does_mv (s : Sim E fr S β a w) (hd : ∀ d, o.dst = some d → d < a.tmps.size) {x : Operand} {y : AOpd} (ho : o.op = .move x ∨ o.op = .assign x) (h : compOpd x = some y) :
    Does P E fr S β a w nm o (.ret (evo S y)) := by
  refine Does.value s hd (c := a.eval x) ?_ rfl (sim_evo s h)
  rcases ho with ho | ho <;> simp [execOp, ho]

theorem does_pick (s : Sim E fr S β a w) (hd : ∀ d, o.dst = some d → d < a.tmps.size) {c x y : Operand} {c' x' y' : AOpd} (ho : o.op = .pick c x y) (hc : compOpd c = some c') (hx : compOpd x = some x') (hy : compOpd y = some y')
    (side : (effPick (evo S c') (evo S x') (evo S y')).side) : Does P E fr S β a w nm o (effPick (evo S c') (evo S x') (evo S y')) := by
  have h1 := sim_evo s hc
  have h2 := sim_evo s hx
  have h3 := sim_evo s hy
  generalize evo S c' = ac at *
  cases ac with
  | v z =>
    cases z with
    | bool t =>
      have e := h1.v_inv
      refine Does.value s hd (c := if t then a.eval x else a.eval y) ?_ rfl ?_
      · cases t <;> simp [execOp, ho, e, asBool]
      · cases t <;> simpa [effPick, Eff.ret]
    | _ => exact side.elim
  | _ => exact side.elim

theorem does_un (s : Sim E fr S β a w) (hd : ∀ d, o.dst = some d → d < a.tmps.size) {op : UnOp} {t : TypeId} {x : Operand} {x' : AOpd} (ho : o.op = .unOp op t x) (hx : compOpd x = some x')
    (side : (effUn op (evo S x')).side) : Does P E fr S β a w nm o (effUn op (evo S x')) := by
  have h1 := sim_evo s hx
  generalize evo S x' = ax at *
  cases ax with
  | v z =>
    cases z with
    | bool b =>
      have e := h1.v_inv
      have hop : op = .not := side
      refine Does.value s hd (c := .bool (!b)) ?_ rfl (.pure (.v _))
      simp [execOp, ho, e, Op.unary, hop]
    | int k n =>
      have e := h1.v_inv
      have hop : op = .neg := side
      refine Does.value s hd (c := .int k (k.wrap (0 - n))) ?_ rfl (.pure (.v _))
      simp [execOp, ho, e, Op.unary, hop, Op.intArith]
    | _ => exact side.elim
  | _ => exact side.elim

theorem run_binE (op : BinOp) (t : TypeId) (x y : Value) (xo yo : Operand) (side : (binE op x y).1) :
    ((do eqGuard op t xo yo x y; binOp op t x y) : Sem Value).run P w = .ok (binE op x y).2 w := by
  cases x <;> cases y <;> cases op <;> first
    | exact side.elim
    | (simp only [binE] at side; simp_all [binE, eqGuard, binOp, Op.intArith, Op.intCmp, Op.intDiv, Op.stringOp, strLess]; done)

theorem does_bin (s : Sim E fr S β a w) (hd : ∀ d, o.dst = some d → d < a.tmps.size) {op : BinOp} {t u : TypeId} {x y : Operand} {x' y' : AOpd} (ho : o.op = .binOp op t x y u) (hx : compOpd x = some x') (hy : compOpd y = some y')
    (side : (effBin op (evo S x') (evo S y')).side) : Does P E fr S β a w nm o (effBin op (evo S x') (evo S y')) := by
  have h1 := sim_evo s hx
  have h2 := sim_evo s hy
  generalize evo S x' = ax at *
  generalize evo S y' = ay at *
  cases ax <;> cases ay <;> first
    | exact side.elim
    | (have e1 := h1.v_inv
       have e2 := h2.v_inv
       refine Does.value s hd (c := (binE op _ _).2) ?_ rfl (.pure (.v _))
       have hr := run_binE (P := P) (w := w) op t _ _ x y side
       simp only [execOp, ho, e1, e2, Sem.run_bind, hr, Result.andThen_ok, Sem.run_pure])

theorem does_eqB (s : Sim E fr S β a w) (hd : ∀ d, o.dst = some d → d < a.tmps.size) {neg : Bool} {t u : TypeId} {x y : Operand} {x' y' : AOpd} (ho : o.op = .binOp (if neg then .neq else .eql) t x y u) (hx : compOpd x = some x') (hy : compOpd y = some y')
    (ht : P.underlying t = some .bool) (side : (effEqB neg (evo S x') (evo S y')).side) : Does P E fr S β a w nm o (effEqB neg (evo S x') (evo S y')) := by
  have h1 := sim_evo s hx
  have h2 := sim_evo s hy
  generalize evo S x' = ax at *
  generalize evo S y' = ay at *
  cases ax with
  | v z => cases z with
    | bool p => cases ay with
      | v z' => cases z' with
        | bool q =>
          have e1 := h1.v_inv
          have e2 := h2.v_inv
          refine Does.value s hd (c := .bool (neg ^^ (p == q))) ?_ rfl (.pure (.v _))
          cases neg <;> simp [execOp, ho, e1, e2, eqGuard_at_bool, run_eql_bool, run_neq_bool, ht]
        | _ => exact side.elim
      | _ => exact side.elim
    | _ => cases ay <;> exact side.elim
  | _ => cases ay <;> exact side.elim

theorem does_lenStr (s : Sim E fr S β a w) (hd : ∀ d, o.dst = some d → d < a.tmps.size) {x : Operand} {x' : AOpd} {t : TypeId} (ho : o.op = .call { callee := .builtin .len, args := #[x], argTypes := #[t] }) (hx : compOpd x = some x')
    (ht : P.underlying t = some .string) (side : (effLenStr (evo S x')).side) : Does P E fr S β a w nm o (effLenStr (evo S x')) := by
  have h1 := sim_evo s hx
  generalize evo S x' = ax at *
  cases ax with
  | v z => cases z with
    | string p =>
      have e1 := h1.v_inv
      refine Does.value s hd (c := .int .i64 p.size) ?_ rfl (.pure (.v _))
      simp [execOp, ho, e1, resolve, invoke, builtin, Builtin.len_, run_underlying ht, goInt]
    | _ => exact side.elim
  | _ => exact side.elim

theorem does_len (s : Sim E fr S β a w) (hd : ∀ d, o.dst = some d → d < a.tmps.size) {x : Operand} {x' : AOpd} {t e : TypeId} (ho : o.op = .call { callee := .builtin .len, args := #[x], argTypes := #[t] }) (hx : compOpd x = some x')
    (ht : P.underlying t = some (.slice e)) (side : (effLen S.h (evo S x')).side) : Does P E fr S β a w nm o (effLen S.h (evo S x')) := by
  have h1 := sim_evo s hx
  have key : ∀ ad n cap, a.eval x = .slice ad n cap → (execOp a.eval o).run P w = .ok (.value (.int .i64 n)) w := by
    intro ad n cap e1
    simp [execOp, ho, e1, resolve, invoke, builtin, Builtin.len_, run_underlying ht, goInt]
  generalize evo S x' = ax at *
  cases ax with
  | sl es =>
    have h2 := h1.sl_inv
    generalize hc : a.eval x = c at *
    cases h2 with
    | slE ad cap hcap => exact Does.value s hd (key _ _ _ rfl) rfl (.pure (.v _))
    | slC g off cap sz f h1 h2 h3 h4 h5 h6 h7 h8 => exact Does.value s hd (key _ _ _ rfl) rfl (.pure (.v _))
  | nils =>
    obtain ⟨ad, h2⟩ := h1.nils_inv
    exact Does.value s hd (key _ _ _ h2) rfl (.pure (.v _))
  | pre b q =>
    obtain ⟨a', n, cap, cap', _, h3, _⟩ := h1.pre_inv
    exact Does.value s hd (key _ _ _ h3) rfl (.pure (.v _))
  | own b =>
    obtain ⟨h2, ad, n, cap, h3⟩ := h1.own_inv
    cases hb : S.h b with
    | none => simp [effLen, hb, Eff.fail] at side
    | some blk => cases blk with
      | box cs => simp [effLen, hb, Eff.fail] at side
      | iter q p => simp [effLen, hb, Eff.fail] at side
      | rowX _ _ _ => simp [effLen, hb, Eff.fail] at side
      | map _ _ => simp [effLen, hb, Eff.fail] at side
      | rowS _ _ _ _ => simp [effLen, hb, Eff.fail] at side
      | row es sz e' =>
        have hn : n = es.length := by
          obtain ⟨xs, hf⟩ := s.bl b _ hb
          rw [← h2, h3] at hf
          rcases hf.row with ⟨ad', h4, h5, _⟩ | ⟨g, cap', h4, h5, h6⟩
          · simp at h4; omega
          · simp at h4; omega
        subst hn
        have : effLen S.h (.own b) = ⟨True, .v (.int .i64 es.length), [], [b]⟩ := by simp [effLen, hb]
        rw [this]
        exact Does.value s hd (key _ _ _ h3) rfl (.pure (.v _))
  | _ => exact side.elim

theorem does_idxStr (s : Sim E fr S β a w) (hd : ∀ d, o.dst = some d → d < a.tmps.size) {t : TypeId} {x i : Operand} {x' i' : AOpd} (ho : o.op = .index t x i) (hx : compOpd x = some x') (hi : compOpd i = some i')
    (ht : P.underlying t = some .string) (side : (effIdxStr (evo S x') (evo S i')).side) : Does P E fr S β a w nm o (effIdxStr (evo S x') (evo S i')) := by
  have h1 := sim_evo s hx
  have h2 := sim_evo s hi
  generalize evo S x' = ax at *
  generalize evo S i' = ai at *
  cases ax with
  | v z => cases z with
    | string p => cases ai with
      | v z' => cases z' with
        | int k n =>
          have e1 := h1.v_inv
          have e2 := h2.v_inv
          obtain ⟨h0, h3⟩ : 0 ≤ n ∧ n < p.size := side
          have hlt : n.toNat < p.size := by omega
          refine Does.value s hd (c := .int .u8 ((p.data.getD n.toNat 0).toNat : Int)) ?_ rfl (.pure (.v _))
          have hb : p[n.toNat]? = some (p.data.getD n.toNat 0) := by
            rw [getElem?_pos p n.toNat hlt]
            congr 1
            show p.data[n.toNat] = _
            rw [Array.getD_eq_getD_getElem?, Array.getElem?_eq_getElem (show n.toNat < p.data.size from hlt)]
            rfl
          simp [execOp, ho, e1, e2, Instr.index, asIntOf, run_underlying ht, h0, hb]
        | _ => exact side.elim
      | _ => exact side.elim
    | _ => cases ai <;> exact side.elim
  | _ => cases ai <;> exact side.elim

theorem does_conv (s : Sim E fr S β a w) (hd : ∀ d, o.dst = some d → d < a.tmps.size) {src dst : TypeId} {k k0 : IntKind} {x : Operand} {x' : AOpd} (ho : o.op = .convert src dst x) (hx : compOpd x = some x')
    (hs : P.underlying src = some (.int k0)) (ht : P.underlying dst = some (.int k)) (side : (effConv k (evo S x')).side) : Does P E fr S β a w nm o (effConv k (evo S x')) := by
  have h1 := sim_evo s hx
  generalize evo S x' = ax at *
  cases ax with
  | v z => cases z with
    | int k1 n =>
      have e1 := h1.v_inv
      refine Does.value s hd (c := .int k (k.wrap n)) ?_ rfl (.pure (.v _))
      simp [execOp, ho, e1, convert, run_underlying hs, run_underlying ht, Conv.intToInt]
    | _ => exact side.elim
  | _ => exact side.elim

theorem does_extract (s : Sim E fr S β a w) (hd : ∀ d, o.dst = some d → d < a.tmps.size) {i : Nat} {x : Operand} {x' : AOpd} (ho : o.op = .extract x i) (hx : compOpd x = some x')
    (side : (effExtract i (evo S x')).side) : Does P E fr S β a w nm o (effExtract i (evo S x')) := by
  have h1 := sim_evo s hx
  generalize evo S x' = ax at *
  cases ax with
  | tup vs =>
    obtain ⟨xs, e1, hl, hr⟩ := h1.tup_inv
    have hi : i < vs.length := side
    have hi' : i < xs.length := by omega
    refine Does.value s hd (c := cv xs i) ?_ rfl (hr i hi)
    simp [execOp, ho, e1, Instr.extract, hi', cv, List.getD_eq_getElem?_getD]
  | _ => exact side.elim

theorem does_minmax (s : Sim E fr S β a w) (hd : ∀ d, o.dst = some d → d < a.tmps.size) {mx : Bool} {x y : Operand} {x' y' : AOpd} {ts : Array TypeId} (ho : o.op = .call { callee := .builtin (if mx then .max else .min), args := #[x, y], argTypes := ts }) (hx : compOpd x = some x') (hy : compOpd y = some y')
    (side : (effMinMax mx (evo S x') (evo S y')).side) : Does P E fr S β a w nm o (effMinMax mx (evo S x') (evo S y')) := by
  have h1 := sim_evo s hx
  have h2 := sim_evo s hy
  generalize evo S x' = ax at *
  generalize evo S y' = ay at *
  cases ax with
  | v z => cases z with
    | int k p => cases ay with
      | v z' => cases z' with
        | int k' q =>
          have e1 := h1.v_inv
          have e2 := h2.v_inv
          have e3 : k = k' := side
          subst e3
          refine Does.value s hd (c := .int k (if mx then (if p < q then q else p) else (if q < p then q else p))) ?_ rfl (.pure (.v _))
          cases mx <;> simp [execOp, ho, e1, e2, resolve, invoke, builtin, Builtin.min_, Builtin.max_, Builtin.min2, Builtin.max2]
        | _ => exact side.elim
      | _ => exact side.elim
    | _ => cases ay <;> exact side.elim
  | _ => cases ay <;> exact side.elim

theorem does_mkfn (s : Sim E fr S β a w) (hd : ∀ d, o.dst = some d → d < a.tmps.size) {f : FuncId} {caps : Array Operand} {caps' : List AOpd} (ho : o.op = .makeFunc (.func f) #[] caps) (hc : caps.toList.mapM compOpd = some caps') :
    Does P E fr S β a w nm o (.ret (.fn f (caps'.map (evo S)))) := by
  have key : ∀ (l : List Operand) (l' : List AOpd), l.mapM compOpd = some l' → l.length = l'.length ∧ ∀ j, j < l'.length → SimV (E.st w β S.h) β w (av (l'.map (evo S)) j) (cv (l.map a.eval) j) := by
    intro l
    induction l with
    | nil => intro l' h; simp at h; subst h; exact ⟨rfl, fun j hj => by simp at hj⟩
    | cons x l ih =>
      intro l' h
      simp only [List.mapM_cons, Option.bind_eq_bind, Option.bind_eq_some_iff, Option.pure_def, Option.some.injEq] at h
      obtain ⟨y, hy, r, hr, rfl⟩ := h
      obtain ⟨h1, h2⟩ := ih r hr
      refine ⟨by simp [h1], fun j hj => ?_⟩
      cases j with
      | zero => simpa [av, cv] using sim_evo s hy
      | succ j => simpa [av, cv] using h2 j (by simpa using hj)
  obtain ⟨h1, h2⟩ := key _ _ hc
  refine Does.value s hd (c := .func (.func f) #[] (caps.map a.eval)) (by simp [execOp, ho, Instr.makeFunc]) rfl ?_
  have := SimV.fn (st := E.st w β S.h) (β := β) (w := w) f (caps'.map (evo S)) (caps.toList.map a.eval) (by simp at h1; simp [h1]) (by simpa using h2)
  have e : (caps.toList.map a.eval).toArray = caps.map a.eval := by
    apply Array.ext'; simp
  rwa [e] at this

/-- The values of a list of operands. -/
theorem sim_evos (s : Sim E fr S β a w) : ∀ (l : List Operand) (l' : List AOpd), l.mapM compOpd = some l' → Vals (E.st w β S.h) β w (l'.map (evo S)) (l.map a.eval) := by
  intro l
  induction l with
  | nil => intro l' h; simp at h; subst h; exact ⟨rfl, fun j hj => by simp at hj⟩
  | cons x l ih =>
    intro l' h
    simp only [List.mapM_cons, Option.bind_eq_bind, Option.bind_eq_some_iff, Option.pure_def, Option.some.injEq] at h
    obtain ⟨y, hy, r, hr, rfl⟩ := h
    obtain ⟨h1, h2⟩ := ih r hr
    refine ⟨by simp at h1; simp [h1], fun j hj => ?_⟩
    cases j with
    | zero => simpa [av, cv] using sim_evo s hy
    | succ j => simpa [av, cv] using h2 j (by simpa using hj)

end does
end Go.Ab
namespace Go.Ab
open Go.RowKit

theorem cv_getElem? {l : List Value} {j : Nat} (h : j < l.length) : l[j]? = some (cv l j) := by
  simp [cv, List.getD_eq_getElem?_getD, h]
theorem cv_mem {l : List Value} {j : Nat} (h : j < l.length) : cv l j ∈ l := by
  simp [cv, List.getD_eq_getElem?_getD, h]
theorem cv_drop (l : List Value) (o j : Nat) : cv (l.drop o) j = cv l (o + j) := by
  simp [cv, List.getD_eq_getElem?_getD]
theorem cv_take (l : List Value) (n j : Nat) (h : j < n) : cv (l.take n) j = cv l j := by
  simp [cv, List.getD_eq_getElem?_getD, h]
theorem av_drop (l : List AV) (o j : Nat) : av (l.drop o) j = av l (o + j) := by
  simp [av, List.getD_eq_getElem?_getD]
theorem av_take (l : List AV) (n j : Nat) (h : j < n) : av (l.take n) j = av l j := by
  simp [av, List.getD_eq_getElem?_getD, h]

theorem simv_ofCells {st : Nat → Prop} {β : Nat → Value} {w : World} {agg : Bool} {n : Nat} {cs : List AV} {xs : List Value} (hl : xs.length = n) (hn : n ≤ cs.length) (ha : agg = true ∨ n = 1)
    (h1 : ∀ x ∈ xs, x.oneCell' = true) (hr : ∀ j, j < n → SimV st β w (av cs j) (cv xs j)) : SimV st β w (ofCells agg n cs) (if agg then .agg xs.toArray else cv xs 0) := by
  cases agg with
  | true =>
    simp only [ofCells, if_true]
    refine .agg _ xs (by simp; omega) h1 (fun j hj => ?_)
    have hj' : j < n := by simp at hj; omega
    rw [av_take _ _ _ hj']
    exact hr j hj'
  | false =>
    have : n = 1 := by simpa using ha
    subst this
    simpa [ofCells] using hr 0 (by omega)

section
variable {P : Program} {w : World}
theorem isAgg_run {t : TypeId} {d : TypeDesc} (hu : P.underlying t = some d) : (isAgg t).run P w = .ok (isAggB P t) w := by
  unfold isAgg isAggB
  rw [Sem.run_bind, run_underlying hu w]
  cases d <;> simp [hu]

theorem run_loadCells_at (g off : Nat) (xs : List Value) (hc : ∀ j, j < xs.length → w.cell? ⟨g, off + j, none⟩ = some (cv xs j)) :
    (loadCells ⟨g, off, none⟩ xs.length).run P w = .ok xs.toArray w := by
  refine run_loadCells_list w _ xs (fun j v hv => ?_)
  have hj : j < xs.length := (List.getElem?_eq_some_iff.1 hv).1
  rw [Addr.add_lit, hc j hj, ← cv_getElem? hj, hv]

theorem run_loadAt_cells {t : TypeId} {i : TypeInfo} {d : TypeDesc} (hi : P.info? t = some i) (hu : P.underlying t = some d) (g off : Nat) (xs : List Value) (hl : xs.length = i.size) (ha : isAggB P t = true ∨ i.size = 1)
    (hc : ∀ j, j < xs.length → w.cell? ⟨g, off + j, none⟩ = some (cv xs j)) :
    (Instr.loadAt t (.pointer (some ⟨g, off, none⟩))).run P w = .ok (if isAggB P t then .agg xs.toArray else cv xs 0) w := by
  have h1 := run_loadCells_at (P := P) g off xs hc
  simp only [Instr.loadAt, Instr.sureAddr, loadVar, Sem.run_bind, Sem.run_pure, Result.andThen_ok, isAgg_run hu]
  cases hb : isAggB P t with
  | true =>
    rw [hl] at h1
    simp [sizeOf, typeInfo, hi, h1]
  | false =>
    have h2 : i.size = 1 := by simpa [hb] using ha
    have h3 := hc 0 (by omega)
    simp only [Nat.add_zero] at h3
    simp [h3]

theorem RowRep.cellAt {e : TypeId} {sz : Nat} {c : Value} {n : Nat} {xs : List Value} (h : RowRep w e sz c n xs) {g n' cap : Nat} (hc : c = .slice (some ⟨g, 0, none⟩) n' cap) : ∀ j, j < xs.length → w.cell? ⟨g, j, none⟩ = some (cv xs j) := by
  intro j hj
  rcases h with ⟨a, _, rfl, rfl⟩ | ⟨g', cap', h1, _, h2⟩
  · simp at hj
  · rw [h1] at hc
    simp at hc
    obtain ⟨rfl, rfl, rfl⟩ := hc
    subst h1
    rw [World.ownsRow.cellAt h2 j (by rw [← h2.1]; exact hj)]
    exact cv_getElem? hj
end

theorem mul_in {i j sz n : Nat} (hi : i < n) (hj : j < sz) : i * sz + j < n * sz :=
  calc i * sz + j < i * sz + sz := by omega
    _ = (i + 1) * sz := by rw [Nat.succ_mul]
    _ ≤ n * sz := Nat.mul_le_mul_right _ hi

section does
variable {P : Program} {E : Entry} {fr : Nat → Prop} {S : AState} {β : Nat → Value} {a : Act} {w : World} {nm : Nat} {o : Oper}

theorem load_run (s : Sim E fr S β a w) {t : TypeId} {i : TypeInfo} {d : TypeDesc}
    (hi : P.info? t = some i) (hu : P.underlying t = some d) (ha : isAggB P t = true ∨ i.size = 1) {ax : AV} {q : Value} (h1 : SimV (E.st w β S.h) β w ax q) (side : (effLoad S.h i.size (isAggB P t) ax).side) :
    ∃ v p, q = .pointer (some p) ∧ (Instr.loadAt t q).run P w = .ok v w ∧ SimV (E.st w β S.h) β w (effLoad S.h i.size (isAggB P t) ax).val v := by
  have key : ∀ g off (xs : List Value), q = .pointer (some ⟨g, off, none⟩) → xs.length = i.size → (∀ j, j < xs.length → w.cell? ⟨g, off + j, none⟩ = some (cv xs j)) →
      (Instr.loadAt t q).run P w = .ok (if isAggB P t then .agg xs.toArray else cv xs 0) w := by
    intro g off xs e1 hl hc
    rw [e1]
    exact run_loadAt_cells hi hu g off xs hl ha hc
  cases ax with
  | rp cs =>
    obtain ⟨g, off, f, e1, hst, hc, hr⟩ := h1.rp_inv
    have hn : i.size ≤ cs.length := side
    have hcv : ∀ j, j < i.size → cv ((List.range i.size).map f) j = f j := fun j hj => by simp [cv, List.getD_eq_getElem?_getD, hj]
    refine ⟨_, _, e1, key g off ((List.range i.size).map f) e1 (by simp) (fun j hj => ?_), (simv_ofCells (by simp) hn ha ?_ (fun j hj => ?_))⟩
    · have hj' : j < i.size := by simpa using hj
      rw [hcv j hj']
      exact (hc j (by omega)).1
    · intro u hu
      simp only [List.mem_map, List.mem_range] at hu
      obtain ⟨j, hj, rfl⟩ := hu
      exact (hc j (by omega)).2
    · rw [hcv j hj]
      exact .pure (hr j (by omega))
  | bp b k =>
    obtain ⟨g, hb, e1⟩ := h1.bp_inv
    cases hB : S.h b with
    | none => simp [effLoad, hB, Eff.fail] at side
    | some blk => cases blk with
      | row es sz e => simp [effLoad, hB, Eff.fail] at side
      | iter q p => simp [effLoad, hB, Eff.fail] at side
      | rowX _ _ _ => simp [effLoad, hB, Eff.fail] at side
      | map _ _ => simp [effLoad, hB, Eff.fail] at side
      | rowS _ _ _ _ => simp [effLoad, hB, Eff.fail] at side
      | box cs =>
        have he : effLoad S.h i.size (isAggB P t) (.bp b k) = ⟨k + i.size ≤ cs.length, ofCells (isAggB P t) i.size (cs.drop k), [], [b]⟩ := by simp [effLoad, hB]
        rw [he] at side ⊢
        have hn : k + i.size ≤ cs.length := side
        obtain ⟨g', ty, xs, f1, f2, f3, f4, f5⟩ := s.bl b _ hB
        rw [hb] at f1
        simp at f1
        subst f1
        have hlen : ((xs.drop k).take i.size).length = i.size := by simp; omega
        refine ⟨_, _, e1, key g k ((xs.drop k).take i.size) e1 hlen (fun j hj => ?_), simv_ofCells hlen (by simp; omega) ha ?_ (fun j hj => ?_)⟩
        · rw [hlen] at hj
          rw [cv_take _ _ _ hj, cv_drop, cell_of_row w g (k + j) xs.toArray ty (0, 0) f2]
          have : k + j < xs.length := by omega
          rw [← cv_getElem? this]
          simp
        · intro u hu
          exact f4 u (List.mem_of_mem_drop (List.mem_of_mem_take hu))
        · rw [cv_take _ _ _ hj, cv_drop, av_drop]
          exact f5 (k + j) (by omega)
  | ep b sz r k =>
    obtain ⟨g, n, cap, hb, e1⟩ := h1.ep_inv
    cases hB : S.h b with
    | none => simp [effLoad, hB, Eff.fail] at side
    | some blk => cases blk with
      | box cs => simp [effLoad, hB, Eff.fail] at side
      | iter q p => simp [effLoad, hB, Eff.fail] at side
      | rowX es sz' e =>
        have he : effLoad S.h i.size (isAggB P t) (.ep b sz r k) = ⟨sz = sz' ∧ r < es.length ∧ k + i.size ≤ sz, ofCells (isAggB P t) i.size ((es.getD r []).drop k), [], [b]⟩ := by simp [effLoad, hB]
        rw [he] at side ⊢
        obtain ⟨hs, hq, hn⟩ : sz = sz' ∧ r < es.length ∧ k + i.size ≤ sz := side
        subst hs
        obtain ⟨xs, hf⟩ := s.bl b _ hB
        have hxl := hf.row.len
        have hmul : ∀ j, j < sz → r * sz + j < xs.length := fun j hj => by rw [hxl]; exact mul_in hq hj
        have hel : (es.getD r []).length = sz := hf.z _ (by simp [List.getD_eq_getElem?_getD, hq])
        have hlen : ((xs.drop (r * sz + k)).take i.size).length = i.size := by
          by_cases h0 : i.size = 0
          · simp [h0]
          · have := hmul (k + i.size - 1) (by omega)
            simp
            omega
        refine ⟨_, _, e1, key g (r * sz + k) ((xs.drop (r * sz + k)).take i.size) e1 hlen (fun j hj => ?_), simv_ofCells hlen (by rw [List.length_drop, hel]; omega) ha ?_ (fun j hj => ?_)⟩
        · rw [hlen] at hj
          rw [cv_take _ _ _ hj, cv_drop]
          exact hf.row.cellAt hb _ (by have := hmul (k + j) (by omega); omega)
        · intro u hu
          exact hf.one u (List.mem_of_mem_drop (List.mem_of_mem_take hu))
        · rw [cv_take _ _ _ hj, cv_drop, av_drop, Nat.add_assoc]
          exact hf.cell r (k + j) hq (by omega)
      | map _ _ => simp [effLoad, hB, Eff.fail] at side
      | rowS _ _ _ _ => simp [effLoad, hB, Eff.fail] at side
      | row es sz' e =>
        have he : effLoad S.h i.size (isAggB P t) (.ep b sz r k) = ⟨sz = sz' ∧ r < es.length ∧ k + i.size ≤ sz, ofCells (isAggB P t) i.size ((es.getD r []).drop k), [], [b]⟩ := by simp [effLoad, hB]
        rw [he] at side ⊢
        obtain ⟨hs, hq, hn⟩ : sz = sz' ∧ r < es.length ∧ k + i.size ≤ sz := side
        subst hs
        obtain ⟨xs, hf⟩ := s.bl b _ hB
        have hxl := hf.row.len
        have hmul : ∀ j, j < sz → r * sz + j < xs.length := fun j hj => by rw [hxl]; exact mul_in hq hj
        have hel : (es.getD r []).length = sz := hf.z _ (by simp [List.getD_eq_getElem?_getD, hq])
        have hlen : ((xs.drop (r * sz + k)).take i.size).length = i.size := by
          by_cases h0 : i.size = 0
          · simp [h0]
          · have := hmul (k + i.size - 1) (by omega)
            simp
            omega
        refine ⟨_, _, e1, key g (r * sz + k) ((xs.drop (r * sz + k)).take i.size) e1 hlen (fun j hj => ?_), simv_ofCells hlen (by rw [List.length_drop, hel]; omega) ha ?_ (fun j hj => ?_)⟩
        · rw [hlen] at hj
          rw [cv_take _ _ _ hj, cv_drop]
          exact hf.row.cellAt hb _ (by have := hmul (k + j) (by omega); omega)
        · intro u hu
          exact hf.one u (List.mem_of_mem_drop (List.mem_of_mem_take hu))
        · rw [cv_take _ _ _ hj, cv_drop, av_drop, Nat.add_assoc]
          exact .pure (hf.cell r (k + j) hq (by omega))
  | _ => exact side.elim

theorem does_load (s : Sim E fr S β a w) (hd : ∀ d, o.dst = some d → d < a.tmps.size) {t : TypeId} {i : TypeInfo} {d : TypeDesc} {x : Operand} {x' : AOpd} (ho : o.op = .load t x) (hx : compOpd x = some x')
    (hi : P.info? t = some i) (hu : P.underlying t = some d) (ha : isAggB P t = true ∨ i.size = 1) (side : (effLoad S.h i.size (isAggB P t) (evo S x')).side) :
    Does P E fr S β a w nm o (effLoad S.h i.size (isAggB P t) (evo S x')) := by
  obtain ⟨v, p, _, hr, hv⟩ := load_run s hi hu ha (sim_evo s hx) side
  have hups : (effLoad S.h i.size (isAggB P t) (evo S x')).ups = [] := by
    generalize evo S x' = ax
    cases ax <;> simp only [effLoad] <;> first | rfl | (split <;> rfl)
  refine Does.value s hd (c := v) ?_ hups hv
  simp only [execOp, ho, Sem.run_bind, hr, Result.andThen_ok, Sem.run_pure]

theorem does_fieldAddr (s : Sim E fr S β a w) (hd : ∀ d, o.dst = some d → d < a.tmps.size) {t : TypeId} {fs : Array Field} {f : Nat} {fd : Field} {i : TypeInfo} {x : Operand} {x' : AOpd} (ho : o.op = .fieldAddr t x f) (hx : compOpd x = some x')
    (hu : P.underlying t = some (.struct fs)) (hf : fs[f]? = some fd) (hi : P.info? fd.type = some i) (h0 : i.size ≠ 0) (side : (effFieldAddr fd.offset (evo S x')).side) :
    Does P E fr S β a w nm o (effFieldAddr fd.offset (evo S x')) := by
  have h1 := sim_evo s hx
  have key : ∀ g off, a.eval x = .pointer (some ⟨g, off, none⟩) → (execOp a.eval o).run P w = .ok (.value (.pointer (some ⟨g, off + fd.offset, none⟩))) w := by
    intro g off e1
    simp [execOp, ho, e1, Instr.fieldAt, run_underlying hu, hf, Instr.sureAddr, fieldPlace, sizeOf, typeInfo, hi, h0, Addr.add_lit]
  generalize evo S x' = ax at *
  cases ax with
  | rp cs =>
    obtain ⟨g, off, f', e1, hst, hc, hr⟩ := h1.rp_inv
    have hn : fd.offset < cs.length := side
    refine Does.value s hd (key g off e1) rfl (.pure (.rp _ g (off + fd.offset) (fun j => f' (fd.offset + j)) hst (fun j hj => ?_) (fun j hj => ?_)))
    · have := hc (fd.offset + j) (by simp at hj; omega)
      rw [show off + fd.offset + j = off + (fd.offset + j) by omega]
      exact this
    · rw [av_drop]
      exact hr _ (by simp at hj; omega)
  | bp b k =>
    obtain ⟨g, hb, e1⟩ := h1.bp_inv
    exact Does.value s hd (key g k e1) rfl (.bp b _ hb)
  | ep b sz q k =>
    obtain ⟨g, n, cap, hb, e1⟩ := h1.ep_inv
    refine Does.value s hd (key g _ e1) rfl ?_
    rw [Nat.add_assoc]
    exact .ep b sz q _ hb
  | _ => exact side.elim

theorem run_part {t : TypeId} {i : TypeInfo} {d : TypeDesc} (hi : P.info? t = some i) (hu : P.underlying t = some d) (ha : isAggB P t = true ∨ i.size = 1) (xs : List Value) (off : Nat) (hn : off + i.size ≤ xs.length) :
    (part t xs.toArray off).run P w = .ok (if isAggB P t then .agg ((xs.drop off).take i.size).toArray else cv ((xs.drop off).take i.size) 0) w := by
  simp only [part, Sem.run_bind, isAgg_run hu, Result.andThen_ok]
  cases hb : isAggB P t with
  | true =>
    simp [sizeOf, typeInfo, hi, List.extract_eq_take_drop]
  | false =>
    have h2 : i.size = 1 := by simpa [hb] using ha
    have : off < xs.length := by omega
    simp [h2, cv, List.getD_eq_getElem?_getD, this]

theorem does_field (s : Sim E fr S β a w) (hd : ∀ d, o.dst = some d → d < a.tmps.size) {t : TypeId} {fs : Array Field} {f : Nat} {fd : Field} {i : TypeInfo} {d : TypeDesc} {x : Operand} {x' : AOpd} (ho : o.op = .field t x f) (hx : compOpd x = some x')
    (hu : P.underlying t = some (.struct fs)) (hf : fs[f]? = some fd) (hi : P.info? fd.type = some i) (hud : P.underlying fd.type = some d) (ha : isAggB P fd.type = true ∨ i.size = 1)
    (side : (effField fd.offset i.size (isAggB P fd.type) (evo S x')).side) : Does P E fr S β a w nm o (effField fd.offset i.size (isAggB P fd.type) (evo S x')) := by
  have h1 := sim_evo s hx
  generalize evo S x' = ax at *
  cases ax with
  | agg cs =>
    obtain ⟨xs, e1, hl, h2, hr⟩ := h1.agg_inv
    have hn : fd.offset + i.size ≤ cs.length := side
    have hlen : ((xs.drop fd.offset).take i.size).length = i.size := by simp; omega
    refine Does.value s hd (c := if isAggB P fd.type then .agg ((xs.drop fd.offset).take i.size).toArray else cv ((xs.drop fd.offset).take i.size) 0) ?_ rfl
      (simv_ofCells hlen (by simp; omega) ha (fun u hu => h2 u (List.mem_of_mem_drop (List.mem_of_mem_take hu))) (fun j hj => ?_))
    · have hp := run_part (w := w) hi hud ha xs fd.offset (by omega)
      simp only [execOp, ho, e1, Instr.field, Sem.run_bind, run_underlying hu, Result.andThen_ok, hf, asAgg, Sem.run_pure, hp]
    · rw [cv_take _ _ _ hj, cv_drop, av_drop]
      exact hr _ (by omega)
  | _ => exact side.elim

theorem does_idxArr (s : Sim E fr S β a w) (hd : ∀ d, o.dst = some d → d < a.tmps.size) {t e : TypeId} {n : Nat} {i : TypeInfo} {d : TypeDesc} {x y : Operand} {x' y' : AOpd} (ho : o.op = .index t x y) (hx : compOpd x = some x') (hy : compOpd y = some y')
    (hu : P.underlying t = some (.array n e)) (hi : P.info? e = some i) (hud : P.underlying e = some d) (ha : isAggB P e = true ∨ i.size = 1)
    (side : (effIdxArr n i.size (isAggB P e) (evo S x') (evo S y')).side) : Does P E fr S β a w nm o (effIdxArr n i.size (isAggB P e) (evo S x') (evo S y')) := by
  have h1 := sim_evo s hx
  have h2 := sim_evo s hy
  generalize evo S x' = ax at *
  generalize evo S y' = ay at *
  cases ax with
  | agg cs => cases ay with
    | v z => cases z with
      | int k q =>
        obtain ⟨xs, e1, hl, h3, hr⟩ := h1.agg_inv
        have e2 := h2.v_inv
        obtain ⟨g1, g2, g3⟩ : 0 ≤ q ∧ q < n ∧ cs.length = n * i.size := side
        have hq : q.toNat < n := by omega
        have hle : q.toNat * i.size + i.size ≤ cs.length := by
          rw [g3, ← Nat.succ_mul]
          exact Nat.mul_le_mul_right _ hq
        have hlen : ((xs.drop (q.toNat * i.size)).take i.size).length = i.size := by simp; omega
        refine Does.value s hd (c := if isAggB P e then .agg ((xs.drop (q.toNat * i.size)).take i.size).toArray else cv ((xs.drop (q.toNat * i.size)).take i.size) 0) ?_ rfl
          (simv_ofCells hlen (by simp; omega) ha (fun u hu => h3 u (List.mem_of_mem_drop (List.mem_of_mem_take hu))) (fun j hj => ?_))
        · have hp := run_part (w := w) hi hud ha xs (q.toNat * i.size) (by omega)
          have hs : (sizeOf e).run P w = .ok i.size w := by simp [sizeOf, typeInfo, hi]
          simp only [execOp, ho, e1, e2, Instr.index, asIntOf, Sem.run_bind, run_underlying hu, Result.andThen_ok, Sem.run_pure, Sem.run_ite, g1, g2, and_self, if_true, hs, hp]
        · rw [cv_take _ _ _ hj, cv_drop, av_drop]
          exact hr _ (by omega)
      | _ => exact side.elim
    | _ => exact side.elim
  | _ => cases ay <;> exact side.elim

theorem does_idxAddr (s : Sim E fr S β a w) (hd : ∀ d, o.dst = some d → d < a.tmps.size) {t e : TypeId} {i : TypeInfo} {x y : Operand} {x' y' : AOpd} (ho : o.op = .indexAddr t x y) (hx : compOpd x = some x') (hy : compOpd y = some y')
    (hu : P.underlying t = some (.slice e)) (hi : P.info? e = some i) (side : (effIdxAddr S.h i.size (evo S y') (evo S x')).side) : Does P E fr S β a w nm o (effIdxAddr S.h i.size (evo S y') (evo S x')) := by
  have h1 := sim_evo s hx
  have h2 := sim_evo s hy
  have key : ∀ g off n cap k q, a.eval x = .slice (some ⟨g, off, none⟩) n cap → a.eval y = .int k q → 0 ≤ q → q < n →
      (execOp a.eval o).run P w = .ok (.value (.pointer (some ⟨g, off + q.toNat * i.size, none⟩))) w := by
    intro g off n cap k q e1 e2 h0 hlt
    simp [execOp, ho, e1, e2, Instr.indexAt, asIntOf, run_underlying hu, h0, hlt, sizeOf, typeInfo, hi, Addr.add_lit]
  generalize evo S x' = ax at *
  generalize evo S y' = ay at *
  cases ax with
  | sl es => cases ay with
    | v z => cases z with
      | int k q =>
        have e2 := h2.v_inv
        obtain ⟨g1, g2, g3⟩ : 0 ≤ q ∧ q < es.length ∧ (es.getD q.toNat []).length = i.size := side
        have hp := h1.sl_inv
        generalize hcc : a.eval x = c at *
        cases hp with
        | slE ad cap hcap => simp at g2; omega
        | slC es' g off cap sz f hc hm h0 hne hz hst hcell hr =>
          have hq : q.toNat < es.length := by omega
          have hsz : (es.getD q.toNat []).length = sz := hz _ (by simp [List.getD_eq_getElem?_getD, hq])
          have hsi : i.size = sz := by omega
          refine Does.value s hd (key g off _ _ k q rfl e2 g1 g2) rfl (.pure (.rp _ g (off + q.toNat * i.size) (fun j => f q.toNat j) hst (fun j hj => ?_) (fun j hj => ?_)))
          · have := hcell q.toNat j hq (by omega)
            rw [hsi, Nat.add_assoc]
            exact this
          · exact hr q.toNat j hq (by omega)
      | _ => exact side.elim
    | _ => exact side.elim
  | own b => cases hB : S.h b with
    | none => cases ay <;> simp [effIdxAddr, hB, Eff.fail] at side
    | some blk => cases blk with
      | box cs => cases ay <;> simp [effIdxAddr, hB, Eff.fail] at side
      | iter q p => cases ay <;> simp [effIdxAddr, hB, Eff.fail] at side
      | rowX es sz e' => cases ay with
        | v z => cases z with
          | int k q =>
            have e2 := h2.v_inv
            have he : effIdxAddr S.h i.size (.v (.int k q)) (.own b) = ⟨0 ≤ q ∧ q < es.length ∧ i.size = sz, .ep b i.size q.toNat 0, [], [b]⟩ := by simp [effIdxAddr, hB]
            rw [he] at side ⊢
            obtain ⟨g1, g2, g3⟩ : 0 ≤ q ∧ q < es.length ∧ i.size = sz := side
            obtain ⟨h3, ad, n, cap, h4⟩ := h1.own_inv
            obtain ⟨xs, hf⟩ := s.bl b _ hB
            rw [← h3, h4] at hf
            rcases hf.row with ⟨ad', h5, h6, _⟩ | ⟨g, cap', h5, h6, h7⟩
            · omega
            · simp at h5
              obtain ⟨rfl, rfl, rfl⟩ := h5
              have hk := key g 0 _ _ k q h4 e2 g1 (by omega)
              refine Does.value s hd hk rfl ?_
              rw [Nat.zero_add]
              have := SimV.ep (st := E.st w β S.h) (w := w) (β := β) b i.size q.toNat 0 (by rw [← h3]; exact h4)
              simpa using this
          | _ => simp [effIdxAddr, hB, Eff.fail] at side
        | _ => simp [effIdxAddr, hB, Eff.fail] at side
      | map _ _ => cases ay <;> simp [effIdxAddr, hB, Eff.fail] at side
      | rowS _ _ _ _ => cases ay <;> simp [effIdxAddr, hB, Eff.fail] at side
      | row es sz e' => cases ay with
        | v z => cases z with
          | int k q =>
            have e2 := h2.v_inv
            have he : effIdxAddr S.h i.size (.v (.int k q)) (.own b) = ⟨0 ≤ q ∧ q < es.length ∧ i.size = sz, .ep b i.size q.toNat 0, [], [b]⟩ := by simp [effIdxAddr, hB]
            rw [he] at side ⊢
            obtain ⟨g1, g2, g3⟩ : 0 ≤ q ∧ q < es.length ∧ i.size = sz := side
            obtain ⟨h3, ad, n, cap, h4⟩ := h1.own_inv
            obtain ⟨xs, hf⟩ := s.bl b _ hB
            rw [← h3, h4] at hf
            rcases hf.row with ⟨ad', h5, h6, _⟩ | ⟨g, cap', h5, h6, h7⟩
            · omega
            · simp at h5
              obtain ⟨rfl, rfl, rfl⟩ := h5
              have hk := key g 0 _ _ k q h4 e2 g1 (by omega)
              refine Does.value s hd hk rfl ?_
              rw [Nat.zero_add]
              have := SimV.ep (st := E.st w β S.h) (w := w) (β := β) b i.size q.toNat 0 (by rw [← h3]; exact h4)
              simpa using this
          | _ => simp [effIdxAddr, hB, Eff.fail] at side
        | _ => simp [effIdxAddr, hB, Eff.fail] at side
  | pre b kk => cases hB : S.h b with
    | none => cases ay <;> simp [effIdxAddr, hB, Eff.fail] at side
    | some blk => cases blk with
      | box cs => cases ay <;> simp [effIdxAddr, hB, Eff.fail] at side
      | iter q p => cases ay <;> simp [effIdxAddr, hB, Eff.fail] at side
      | rowX _ _ _ => cases ay <;> simp [effIdxAddr, hB, Eff.fail] at side
      | map _ _ => cases ay <;> simp [effIdxAddr, hB, Eff.fail] at side
      | rowS _ _ _ _ => cases ay <;> simp [effIdxAddr, hB, Eff.fail] at side
      | row es sz e' => cases ay with
        | v z => cases z with
          | int k q =>
            have e2 := h2.v_inv
            have he : effIdxAddr S.h i.size (.v (.int k q)) (.pre b kk) = ⟨0 ≤ q ∧ q < kk ∧ kk ≤ es.length ∧ i.size = sz, .ep b i.size q.toNat 0, [], [b]⟩ := by simp [effIdxAddr, hB]
            rw [he] at side ⊢
            obtain ⟨g1, g2, g4, g3⟩ : 0 ≤ q ∧ q < kk ∧ kk ≤ es.length ∧ i.size = sz := side
            obtain ⟨ad, n, cap, cap', h3, h4, _, _⟩ := h1.pre_inv
            obtain ⟨xs, hf⟩ := s.bl b _ hB
            rw [h3] at hf
            rcases hf.row with ⟨ad', h5, h6, _⟩ | ⟨g, cap2, h5, h6, h7⟩
            · omega
            · simp at h5
              obtain ⟨rfl, rfl, rfl⟩ := h5
              have hk := key g 0 _ _ k q h4 e2 g1 (by omega)
              refine Does.value s hd hk rfl ?_
              rw [Nat.zero_add]
              have := SimV.ep (st := E.st w β S.h) (w := w) (β := β) b i.size q.toNat 0 h3
              simpa using this
          | _ => simp [effIdxAddr, hB, Eff.fail] at side
        | _ => simp [effIdxAddr, hB, Eff.fail] at side
  | _ => exact side.elim

theorem does_idxPtr (s : Sim E fr S β a w) (hd : ∀ d, o.dst = some d → d < a.tmps.size) {t e : TypeId} {len : Nat} {i : TypeInfo} {x y : Operand} {x' y' : AOpd} (ho : o.op = .indexAddr t x y) (hx : compOpd x = some x') (hy : compOpd y = some y')
    (hu : P.underlying t = some (.array len e)) (hi : P.info? e = some i) (h0 : 0 < i.size) (side : (effIdxPtr len i.size (evo S y') (evo S x')).side) : Does P E fr S β a w nm o (effIdxPtr len i.size (evo S y') (evo S x')) := by
  have h1 := sim_evo s hx
  have h2 := sim_evo s hy
  have key : ∀ g off k q, a.eval x = .pointer (some ⟨g, off, none⟩) → a.eval y = .int k q → 0 ≤ q → q < len →
      (execOp a.eval o).run P w = .ok (.value (.pointer (some ⟨g, off + q.toNat * i.size, none⟩))) w := by
    intro g off k q e1 e2 h3 hlt
    simp [execOp, ho, e1, e2, Instr.indexAt, asIntOf, run_underlying hu, h3, hlt, sizeOf, typeInfo, hi, Addr.add_lit, Instr.sureAddr]
  generalize evo S x' = ax at *
  generalize evo S y' = ay at *
  cases ax with
  | rp cs => cases ay with
    | v z => cases z with
      | int k q =>
        have e2 := h2.v_inv
        obtain ⟨g1, g2, g3⟩ : 0 ≤ q ∧ q < len ∧ q.toNat * i.size < cs.length := side
        obtain ⟨g, off, f', e1, hst, hc, hr⟩ := h1.rp_inv
        refine Does.value s hd (key g off k q e1 e2 g1 g2) rfl (.pure (.rp _ g (off + q.toNat * i.size) (fun j => f' (q.toNat * i.size + j)) hst (fun j hj => ?_) (fun j hj => ?_)))
        · have := hc (q.toNat * i.size + j) (by simp at hj; omega)
          rw [show off + q.toNat * i.size + j = off + (q.toNat * i.size + j) by omega]
          exact this
        · rw [av_drop]
          exact hr _ (by simp at hj; omega)
      | _ => exact side.elim
    | _ => exact side.elim
  | bp b k0 => cases ay with
    | v z => cases z with
      | int k q =>
        have e2 := h2.v_inv
        obtain ⟨g1, g2⟩ : 0 ≤ q ∧ q < len := side
        obtain ⟨g, hb, e1⟩ := h1.bp_inv
        exact Does.value s hd (key g k0 k q e1 e2 g1 g2) rfl (.bp b _ hb)
      | _ => exact side.elim
    | _ => exact side.elim
  | _ => exact side.elim

end does
end Go.Ab
namespace Go.Ab
open Go.RowKit
variable {P : Program} {w : World}

/-- What the cells are, kind by kind. -/
def eqVal : Nat → Value → Value → Prop × Bool
  | 0, .int k a, .int k' b => (k = k', a == b)
  | 1, .bool a, .bool b => (True, a == b)
  | 2, .string a, .string b => (True, a.toList == b.toList)
  | _, _, _ => (False, false)
def eqVals : List Nat → List Value → List Value → Prop × Bool
  | [], [], [] => (True, true)
  | k :: ks, a :: x, b :: y => ((eqVal k a b).1 ∧ (eqVals ks x y).1, (eqVal k a b).2 && (eqVals ks x y).2)
  | _, _, _ => (False, false)

theorem eqVals_len : ∀ {ks : List Nat} {x y : List Value}, (eqVals ks x y).1 → x.length = ks.length ∧ y.length = ks.length
  | [], [], [], _ => ⟨rfl, rfl⟩
  | k :: ks, a :: x, b :: y, h => by
    obtain ⟨h1, h2⟩ := eqVals_len (ks := ks) h.2
    simp [h1, h2]
  | [], a :: _, _, h => h.elim
  | [], [], b :: _, h => h.elim
  | _ :: _, [], _, h => h.elim
  | _ :: _, _ :: _, [], h => h.elim

theorem eqVals_append : ∀ {ks ks' : List Nat} {x y : List Value}, (eqVals (ks ++ ks') x y).1 →
    (eqVals ks (x.take ks.length) (y.take ks.length)).1 ∧ (eqVals ks' (x.drop ks.length) (y.drop ks.length)).1 ∧ (eqVals (ks ++ ks') x y).2 = ((eqVals ks (x.take ks.length) (y.take ks.length)).2 && (eqVals ks' (x.drop ks.length) (y.drop ks.length)).2)
  | [], ks', x, y, h => ⟨trivial, h, by simp [eqVals]⟩
  | k :: ks, ks', a :: x, b :: y, h => by
    obtain ⟨h1, h2, h3⟩ := eqVals_append (ks := ks) (ks' := ks') (x := x) (y := y) h.2
    refine ⟨⟨h.1, h1⟩, h2, ?_⟩
    show ((eqVal k a b).2 && (eqVals (ks ++ ks') x y).2) = _
    rw [h3]
    simp [eqVals, Bool.and_assoc]
  | _ :: _, _, [], _, h => h.elim
  | _ :: _, _, _ :: _, [], h => h.elim

/-- A value of a type out of its cells. -/
def ofVals (P : Program) (t : TypeId) (xs : List Value) : Value := if isAggB P t then .agg xs.toArray else cv xs 0

theorem eqIn_ok : ∀ (n : Nat) (t : TypeId) (ks : List Nat), eqKinds P n t = some ks → ∀ (d : Nat), n ≤ d → ∀ (x y : List Value), (eqVals ks x y).1 →
    (Op.equalIn d t (ofVals P t x) (ofVals P t y)).run P w = .ok (eqVals ks x y).2 w
  | 0, t, ks, h, _, _, _, _, _ => by simp [eqKinds] at h
  | n + 1, t, ks, h, d, hd, x, y, hx => by
    obtain ⟨d, rfl⟩ : ∃ d', d = d' + 1 := ⟨d - 1, by omega⟩
    unfold eqKinds at h
    have one : ∀ {k : Nat}, ks = [k] → ∃ a b, x = [a] ∧ y = [b] ∧ (eqVal k a b).1 ∧ (eqVals ks x y).2 = (eqVal k a b).2 := by
      intro k e
      subst e
      obtain ⟨h1, h2⟩ := eqVals_len hx
      match x, y, h1, h2 with
      | [a], [b], _, _ => exact ⟨a, b, rfl, rfl, hx.1, by simp [eqVals]⟩
    split at h
    · rename_i k hu
      split at h
      · rename_i hg
        simp only [Option.some.injEq] at h
        obtain ⟨a, b, rfl, rfl, h1, h2⟩ := one h.symm
        rw [h2]
        simp only [ofVals, hg, cv, List.getD_cons_zero, Bool.false_eq_true, if_false]
        cases a <;> cases b <;> first | exact h1.elim | skip
        obtain rfl := h1
        exact run_equalIn_int w d t _ k _ _ hu
      · cases h
    · rename_i hu
      split at h
      · rename_i hg
        simp only [Option.some.injEq] at h
        obtain ⟨a, b, rfl, rfl, h1, h2⟩ := one h.symm
        rw [h2]
        simp only [ofVals, hg, cv, List.getD_cons_zero, Bool.false_eq_true, if_false]
        cases a <;> cases b <;> first | exact h1.elim | skip
        exact run_equalIn_bool' w d t _ _ hu
      · cases h
    · rename_i hu
      split at h
      · rename_i hg
        simp only [Option.some.injEq] at h
        obtain ⟨a, b, rfl, rfl, h1, h2⟩ := one h.symm
        rw [h2]
        simp only [ofVals, hg, cv, List.getD_cons_zero, Bool.false_eq_true, if_false]
        cases a <;> cases b <;> first | exact h1.elim | skip
        exact run_equalIn_string w d t _ _ hu
      · cases h
    · rename_i fs hu
      split at h
      · rename_i hg
        obtain ⟨hg, hst⟩ := hg
        have hf : P.fieldsOf t = fs := by simp [Program.fieldsOf, hu]
        simp only [ofVals, hg, if_true]
        rw [run_equalIn_struct w d t _ _ (by rw [hf]; exact hu) hst, hf]
        have go : ∀ (l : List Field) (off : Nat) (ks : List Nat), fieldKinds P (eqKinds P n) l off = some ks → (eqVals ks (x.drop off) (y.drop off)).1 →
            (Op.eqFields d x.toArray y.toArray l).run P w = .ok (eqVals ks (x.drop off) (y.drop off)).2 w := by
          intro l
          induction l with
          | nil =>
            intro off ks hk hv
            simp only [fieldKinds, Option.some.injEq] at hk
            subst hk
            obtain ⟨h1, h2⟩ := eqVals_len hv
            have e1 : x.drop off = [] := List.eq_nil_of_length_eq_zero h1
            have e2 : y.drop off = [] := List.eq_nil_of_length_eq_zero h2
            rw [e1, e2]
            rfl
          | cons f l ih =>
            intro off ks hk hv
            simp only [fieldKinds] at hk
            split at hk
            · rename_i k1 i dsc hk1 hi hud
              split at hk
              · rename_i hc
                obtain ⟨h1, h2, h3, h5, h4⟩ := hc
                simp only [Option.map_eq_some_iff] at hk
                obtain ⟨k2, hk2, rfl⟩ := hk
                obtain ⟨v1, v2, v3⟩ := eqVals_append hv
                rw [List.drop_drop] at v2 v3
                rw [List.drop_drop] at v2 v3
                obtain ⟨l1, l2⟩ := eqVals_len v1
                have hx1 : off + i.size ≤ x.length := by simp at l1; omega
                have hy1 : off + i.size ≤ y.length := by simp at l2; omega
                have p1 := run_part (P := P) (w := w) hi hud h4 x off hx1
                have p2 := run_part (P := P) (w := w) hi hud h4 y off hy1
                have r1 := eqIn_ok n f.type k1 hk1 d (by omega) _ _ v1
                have r2 := ih (off + k1.length) k2 hk2 v2
                rw [h3] at p1 p2
                have h2' : f.name ≠ "_" := h2
                simp only [Op.eqFields, if_pos h2', Sem.run_bind, h1, p1, p2, Result.andThen_ok]
                have r1' : (Op.equalIn d f.type (if isAggB P f.type = true then Value.agg (List.take k1.length (List.drop off x)).toArray else cv (List.take k1.length (List.drop off x)) 0) (if isAggB P f.type = true then Value.agg (List.take k1.length (List.drop off y)).toArray else cv (List.take k1.length (List.drop off y)) 0)).run P w = .ok (eqVals k1 (List.take k1.length (List.drop off x)) (List.take k1.length (List.drop off y))).2 w := r1
                rw [r1']
                simp only [Result.andThen_ok, Sem.run_ite]
                rw [v3]
                cases hb : (eqVals k1 (List.take k1.length (List.drop off x)) (List.take k1.length (List.drop off y))).2
                · simp
                · simp [r2]
              · cases hk
            · cases hk
        have := go fs.toList 0 ks h (by simpa using hx)
        simpa using this
      · cases h
    · cases h

theorem eqCell_val {st : Nat → Prop} {β : Nat → Value} : ∀ {k : Nat} {a b : AV} {c d : Value}, (eqCell k a b).1 → SimV st β w a c → SimV st β w b d → (eqVal k c d) = (eqCell k a b) := by
  intro k a b c d h ha hb
  match k, a, b, h with
  | 0, .v (.int k1 i), .v (.int k2 j), h => rw [ha.v_inv, hb.v_inv]; rfl
  | 1, .v (.bool i), .v (.bool j), h => rw [ha.v_inv, hb.v_inv]; rfl
  | 2, .v (.string i), .v (.string j), h => rw [ha.v_inv, hb.v_inv]; rfl

theorem eqCells_vals {st : Nat → Prop} {β : Nat → Value} : ∀ {ks : List Nat} {x y : List AV} {cs ds : List Value}, (eqCells ks x y).1 → x.length = cs.length → y.length = ds.length →
    (∀ j, j < x.length → SimV st β w (av x j) (cv cs j)) → (∀ j, j < y.length → SimV st β w (av y j) (cv ds j)) → (eqVals ks cs ds).1 ∧ (eqVals ks cs ds).2 = (eqCells ks x y).2
  | [], [], [], [], [], _, _, _, _, _ => ⟨trivial, rfl⟩
  | k :: ks, a :: x, b :: y, c :: cs, d :: ds, h, hx, hy, h1, h2 => by
    have e0 := eqCell_val h.1 (h1 0 (by simp)) (h2 0 (by simp))
    have e0' : eqVal k c d = eqCell k a b := e0
    obtain ⟨i1, i2⟩ := eqCells_vals (ks := ks) (x := x) (y := y) (cs := cs) (ds := ds) h.2 (by simpa using hx) (by simpa using hy) (fun j hj => h1 (j + 1) (by simp; omega)) (fun j hj => h2 (j + 1) (by simp; omega))
    refine ⟨⟨by rw [e0']; exact h.1, i1⟩, ?_⟩
    show ((eqVal k c d).2 && (eqVals ks cs ds).2) = _
    rw [e0', i2]
    rfl

theorem does_eqAgg {E : Entry} {fr : Nat → Prop} {S : AState} {β : Nat → Value} {a : Act} {nm : Nat} {o : Oper} (s : Sim E fr S β a w) (hd : ∀ d, o.dst = some d → d < a.tmps.size) {neg : Bool} {t u : TypeId} {fs : Array Field} {ks : List Nat} {x y : Operand} {x' y' : AOpd} (ho : o.op = .binOp (if neg then .neq else .eql) t x y u) (hx : compOpd x = some x') (hy : compOpd y = some y')
    (hu : P.underlying t = some (.struct fs)) (hk : eqKinds P 20 t = some ks) (hg : P.eqGuardType P.depth t = false) (side : (effEqAgg neg ks (evo S x') (evo S y')).side) : Does P E fr S β a w nm o (effEqAgg neg ks (evo S x') (evo S y')) := by
  have h1 := sim_evo s hx
  have h2 := sim_evo s hy
  generalize evo S x' = ax at *
  generalize evo S y' = ay at *
  cases ax with
  | agg p => cases ay with
    | agg q =>
      obtain ⟨xs, e1, hl1, _, hv1⟩ := h1.agg_inv
      obtain ⟨ys, e2, hl2, _, hv2⟩ := h2.agg_inv
      obtain ⟨g1, g2⟩ := eqCells_vals side hl1 hl2 hv1 hv2
      have ht : isAggB P t = true := by
        unfold eqKinds at hk
        rw [hu] at hk
        simp only at hk
        split at hk
        · rename_i h; exact h.1
        · cases hk
      have hr := eqIn_ok (P := P) (w := w) 20 t ks hk 10000 (by omega) xs ys g1
      simp only [ofVals, ht, if_true] at hr
      refine Does.value s hd (c := .bool (neg ^^ (eqCells ks p q).2)) ?_ rfl (.pure (.v _))
      cases neg <;> simp [execOp, ho, e1, e2, run_eqGuard_agg, run_eql_struct, run_neq_struct, hg, hr, g2]
    | _ => exact side.elim
  | _ => exact side.elim
end Go.Ab
namespace Go.Ab
open Go.RowKit

section does
variable {P : Program} {E : Entry} {fr : Nat → Prop} {S : AState} {β : Nat → Value} {a : Act} {w : World} {nm : Nat} {o : Oper}

theorem run_bounds (isSlice : Bool) (len cap : Nat) (lo hi : Option Value) (l h : Int) (hl : lo = none ∧ l = 0 ∨ ∃ k, lo = some (.int k l)) (hh : hi = none ∧ h = len ∨ ∃ k, hi = some (.int k h))
    (h0 : 0 ≤ l) (h1 : l ≤ h) (h2 : h ≤ cap) (_hlc : len ≤ cap) : (Instr.sliceBounds isSlice len cap lo hi none).run P w = .ok (l.toNat, h.toNat, cap) w := by
  rcases hl with ⟨rfl, rfl⟩ | ⟨k, rfl⟩ <;> rcases hh with ⟨rfl, rfl⟩ | ⟨k', rfl⟩
  · simp [Instr.sliceBounds]
  · simp [Instr.sliceBounds, run_sliceBound w k' h cap _ (by omega) h2]
  · simp [Instr.sliceBounds, run_sliceBound w k l len _ h0 h1]
  · have e : (h.toNat : Int) = h := Int.toNat_of_nonneg (by omega)
    simp [Instr.sliceBounds, run_sliceBound w k' h cap _ (by omega) h2, run_sliceBound w k l h.toNat _ h0 (by omega)]

theorem sim_opt (s : Sim E fr S β a w) {x : Option Operand} {y : Option AOpd} (h : optOpd x = some y) (d : Int) {l : Int} (hl : (match y.map (evo S) with | none => d | some (.v (.int _ n)) => n | _ => -1) = l) (hn : 0 ≤ l) :
    x.map a.eval = none ∧ l = d ∨ ∃ k, x.map a.eval = some (.int k l) := by
  cases x with
  | none => simp [optOpd] at h; subst h; exact .inl ⟨rfl, by simpa using hl.symm⟩
  | some x =>
    simp only [optOpd, Option.map_eq_some_iff] at h
    obtain ⟨z, hz, rfl⟩ := h
    have h1 := sim_evo s hz
    simp only [Option.map_some] at hl ⊢
    generalize evo S z = az at *
    cases az with
    | v q => cases q with
      | int k n =>
        have e := h1.v_inv
        simp only at hl
        subst hl
        exact .inr ⟨k, by rw [e]⟩
      | _ => simp at hl; omega
    | _ => simp at hl; omega

theorem lo_eq (x : Option AV) : loBound x = (match x with | none => 0 | some (.v (.int _ n)) => n | _ => -1) := by
  unfold loBound; split <;> simp_all
theorem hi_eq (len : Nat) (x : Option AV) : hiBound len x = (match x with | none => (len : Int) | some (.v (.int _ n)) => n | _ => -1) := by
  unfold hiBound; split <;> simp_all

theorem does_sliceStr (s : Sim E fr S β a w) (hd : ∀ d, o.dst = some d → d < a.tmps.size) {t : TypeId} {x : Operand} {x' : AOpd} {lo hi : Option Operand} {lo' hi' : Option AOpd} (ho : o.op = .slice t x lo hi none) (hx : compOpd x = some x')
    (hlo : optOpd lo = some lo') (hhi : optOpd hi = some hi') (hu : P.underlying t = some .string) (side : (effSliceStr (lo'.map (evo S)) (hi'.map (evo S)) (evo S x')).side) :
    Does P E fr S β a w nm o (effSliceStr (lo'.map (evo S)) (hi'.map (evo S)) (evo S x')) := by
  have h1 := sim_evo s hx
  generalize evo S x' = ax at *
  cases ax with
  | v z => cases z with
    | string p =>
      have e1 := h1.v_inv
      obtain ⟨g1, g2, g3⟩ : 0 ≤ loBound (lo'.map (evo S)) ∧ loBound (lo'.map (evo S)) ≤ hiBound p.size (hi'.map (evo S)) ∧ hiBound p.size (hi'.map (evo S)) ≤ p.size := side
      have hl := sim_opt s hlo 0 (lo_eq _).symm g1
      have hh := sim_opt s hhi p.size (hi_eq _ _).symm (by omega)
      have hb := run_bounds (P := P) (w := w) false p.size p.size _ _ _ _ hl hh g1 g2 g3 (Nat.le_refl _)
      refine Does.value s hd (c := .string (p.extract (loBound (lo'.map (evo S))).toNat (hiBound p.size (hi'.map (evo S))).toNat)) ?_ rfl (.pure (.v _))
      simp [execOp, ho, e1, Instr.sliceAt, Instr.slice, run_underlying hu, hb]
    | _ => exact side.elim
  | _ => exact side.elim

theorem does_slice (s : Sim E fr S β a w) (hd : ∀ d, o.dst = some d → d < a.tmps.size) {t e : TypeId} {i : TypeInfo} {x : Operand} {x' : AOpd} {lo hi : Option Operand} {lo' hi' : Option AOpd} (ho : o.op = .slice t x lo hi none) (hx : compOpd x = some x')
    (hlo : optOpd lo = some lo') (hhi : optOpd hi = some hi') (hu : P.underlying t = some (.slice e)) (hi : P.info? e = some i) (side : (effSlice i.size (lo'.map (evo S)) (hi'.map (evo S)) (evo S x')).side) :
    Does P E fr S β a w nm o (effSlice i.size (lo'.map (evo S)) (hi'.map (evo S)) (evo S x')) := by
  have h1 := sim_evo s hx
  generalize evo S x' = ax at *
  cases ax with
  | sl es =>
    obtain ⟨gz, g1, g2, g3⟩ : (∀ x ∈ es, x.length = i.size) ∧ 0 ≤ loBound (lo'.map (evo S)) ∧ loBound (lo'.map (evo S)) ≤ hiBound es.length (hi'.map (evo S)) ∧ hiBound es.length (hi'.map (evo S)) ≤ es.length := side
    have hl := sim_opt s hlo 0 (lo_eq _).symm g1
    have hh := sim_opt s hhi es.length (hi_eq _ _).symm (by omega)
    have hev : effSlice i.size (lo'.map (evo S)) (hi'.map (evo S)) (.sl es) = .iff ((∀ x ∈ es, x.length = i.size) ∧ 0 ≤ loBound (lo'.map (evo S)) ∧ loBound (lo'.map (evo S)) ≤ hiBound es.length (hi'.map (evo S)) ∧ hiBound es.length (hi'.map (evo S)) ≤ es.length)
      (.sl ((es.take (hiBound es.length (hi'.map (evo S))).toNat).drop (loBound (lo'.map (evo S))).toNat)) := rfl
    rw [hev]
    clear hev
    generalize loBound (lo'.map (evo S)) = l at *
    generalize hiBound es.length (hi'.map (evo S)) = h at *
    have hsz : (sizeOf e).run P w = .ok i.size w := by simp [sizeOf, typeInfo, hi]
    have key : ∀ ad cap, a.eval x = .slice ad es.length cap → es.length ≤ cap → (execOp a.eval o).run P w = .ok (.value (.slice (if cap = l.toNat then ad else ad.map (·.add (l.toNat * i.size))) (h.toNat - l.toNat) (cap - l.toNat))) w := by
      intro ad cap e1 hlc
      have hb := run_bounds (P := P) (w := w) true es.length cap _ _ _ _ hl hh g1 g2 (by omega) hlc
      simp [execOp, ho, e1, Instr.sliceAt, Instr.slice, run_underlying hu, hb, hsz]
    have hlen : ((es.take h.toNat).drop l.toNat).length = h.toNat - l.toNat := by simp; omega
    have emp : ∀ ad cap, cap ≤ maxLen → h.toNat - l.toNat = 0 → SimV (E.st w β S.h) β w (.sl ((es.take h.toNat).drop l.toNat)) (.slice ad (h.toNat - l.toNat) (cap - l.toNat)) := by
      intro ad cap hc h0
      have : (es.take h.toNat).drop l.toNat = [] := List.eq_nil_of_length_eq_zero (by omega)
      rw [this, h0]
      exact .pure (.slE _ _ (by omega))
    have hp := h1.sl_inv
    generalize hcc : a.eval x = c at *
    cases hp with
    | slE ad cap hcap => exact Does.value s hd (key ad cap rfl (Nat.zero_le _)) rfl (emp _ _ hcap (by simp at g3; omega))
    | slC es' g off cap sz f hc hm h0 hne hz hst hcell hr =>
      refine Does.value s hd (key _ cap rfl hc) rfl ?_
      by_cases hne' : h.toNat - l.toNat = 0
      · exact emp _ _ hm hne'
      · have hsi : sz = i.size := by
          have h0' : 0 < es.length := by omega
          have m : es.getD 0 [] ∈ es := by simp [List.getD_eq_getElem?_getD, h0']
          rw [← hz _ m, gz _ m]
        have hcl : cap ≠ l.toNat := by omega
        rw [if_neg hcl]
        simp only [Option.map_some, Addr.add_lit]
        rw [← hlen]
        have hget : ∀ q, q < h.toNat - l.toNat → ((es.take h.toNat).drop l.toNat).getD q [] = es.getD (l.toNat + q) [] := by
          intro q hq
          simp only [List.getD_eq_getElem?_getD, List.getElem?_drop, List.getElem?_take]
          rw [if_pos (by omega)]
        refine .pure (.slC _ g (off + l.toNat * i.size) (cap - l.toNat) sz (fun q j => f (l.toNat + q) j) (by omega) (by omega) h0 (fun e => hne' (by rw [← hlen, e]; rfl)) (fun y hy => hz y (List.mem_of_mem_take (List.mem_of_mem_drop hy))) hst (fun q j hq hj => ?_) (fun q j hq hj => ?_))
        · have := hcell (l.toNat + q) j (by omega) hj
          rw [← hsi, show off + l.toNat * sz + (q * sz + j) = off + ((l.toNat + q) * sz + j) by rw [Nat.add_mul]; omega]
          exact this
        · rw [hget q (by omega)]
          exact hr (l.toNat + q) j (by omega) hj
  | _ => exact side.elim

theorem row_cap {st : Nat → Prop} {w : World} {es : List (List AV)} {sz : Nat} {ty : TypeId} {ad : Option Addr} {n cap : Nat} {xs : List Value} (hf : RowFits st w es sz ty (.slice ad n cap) xs) :
    n = es.length ∧ n ≤ cap ∧ cap ≤ maxLen ∧ (0 < n → ∃ g cur, ad = some ⟨g, 0, none⟩ ∧ w.heap[g]? = some (.cells cur ty (0, 0)) ∧ cur.size = cap * sz ∧ cur.toList.take (es.length * sz) = xs) := by
  rcases hf.row with ⟨ad', h5, h6, _⟩ | ⟨gg, cap', h5, h6, h7⟩
  · simp only [Value.slice.injEq] at h5
    obtain ⟨rfl, rfl, rfl⟩ := h5
    exact ⟨h6.symm, Nat.le_refl _, Nat.zero_le _, fun h => absurd h (by omega)⟩
  · simp only [Value.slice.injEq] at h5
    obtain ⟨rfl, rfl, rfl⟩ := h5
    rcases h7.2 with ⟨h8, _⟩ | ⟨g', cap', cur, h8, h9, h10, h11, h12, h13, h14⟩
    · cases h8
    · simp only [Value.slice.injEq, Option.some.injEq, Addr.mk.injEq, and_true, true_and] at h8
      obtain ⟨rfl, rfl⟩ := h8
      exact ⟨rfl, h11, h12, fun _ => ⟨gg, cur, rfl, h10, h13, h14⟩⟩
theorem does_sliceO (s : Sim E fr S β a w) (hd : ∀ d, o.dst = some d → d < a.tmps.size) {t e : TypeId} {i : TypeInfo} {x : Operand} {x' : AOpd} {lo0 hi0 : Option Operand} {lo' hi' : Option AOpd} (ho : o.op = .slice t x lo0 hi0 none) (hx : compOpd x = some x')
    (hlo : optOpd lo0 = some lo') (hhi : optOpd hi0 = some hi') (hu : P.underlying t = some (.slice e)) (hi : P.info? e = some i) (side : (effSliceO S.h i.size (lo'.map (evo S)) (hi'.map (evo S)) (evo S x')).side) :
    Does P E fr S β a w nm o (effSliceO S.h i.size (lo'.map (evo S)) (hi'.map (evo S)) (evo S x')) := by
  have h1 := sim_evo s hx
  have old : (effSlice i.size (lo'.map (evo S)) (hi'.map (evo S)) (evo S x')).side → Does P E fr S β a w nm o (effSlice i.size (lo'.map (evo S)) (hi'.map (evo S)) (evo S x')) := fun sd => does_slice s hd ho hx hlo hhi hu hi sd
  generalize evo S x' = ax at *
  cases ax with
  | own b =>
    simp only [effSliceO] at side ⊢
    obtain ⟨e1, ad, n, cap, e2⟩ := h1.own_inv
    cases hB : S.h b with
    | none => rw [hB] at side; exact side.elim
    | some blk =>
      rw [hB] at side
      cases blk with
      | box cs => exact side.elim
      | iter q p => exact side.elim
      | rowX _ _ _ => exact side.elim
      | map _ _ => exact side.elim
      | rowS _ _ _ _ => exact side.elim
      | row es sz' ty =>
        obtain ⟨xs, hf⟩ := s.bl b _ hB
        rw [← e1, e2] at hf
        obtain ⟨hn, hnc, hcm, hpos⟩ := row_cap hf
        have hsz : (sizeOf e).run P w = .ok i.size w := by simp [sizeOf, typeInfo, hi]
        have key : ∀ l h : Int, (lo0.map a.eval = none ∧ l = 0 ∨ ∃ k, lo0.map a.eval = some (.int k l)) → (hi0.map a.eval = none ∧ h = n ∨ ∃ k, hi0.map a.eval = some (.int k h)) → 0 ≤ l → l ≤ h → h ≤ n →
            (execOp a.eval o).run P w = .ok (.value (.slice (if cap = l.toNat then ad else ad.map (·.add (l.toNat * i.size))) (h.toNat - l.toNat) (cap - l.toNat))) w := by
          intro l h hl hh g1 g2 g3
          have hb := run_bounds (P := P) (w := w) true n cap _ _ _ _ hl hh g1 g2 (by omega) hnc
          simp [execOp, ho, e2, Instr.sliceAt, Instr.slice, run_underlying hu, hb, hsz]
        cases lo' with
        | none =>
          cases hi' with
          | none => exact side.elim
          | some k =>
            simp only [Option.map_none, Option.map_some, sliceO] at side ⊢
            obtain ⟨g0, g1, g2⟩ := side
            have hl := sim_opt s hlo 0 (l := 0) rfl (Int.le_refl _)
            have hh := sim_opt s hhi n (l := hiBound es.length (some (evo S k))) (by rw [hi_eq, hn]; rfl) g1
            generalize hiBound es.length (some (evo S k)) = h at *
            refine Does.value s hd (key 0 h hl hh (Int.le_refl _) g1 (by omega)) rfl ?_
            have e3 : (Value.slice (if cap = (0 : Int).toNat then ad else ad.map (·.add ((0 : Int).toNat * i.size))) (h.toNat - (0 : Int).toNat) (cap - (0 : Int).toNat)) = .slice ad h.toNat cap := by
              simp only [Int.toNat_zero, Nat.zero_mul, Nat.sub_zero]
              congr 1
              split
              · rfl
              · by_cases h0 : 0 < n
                · obtain ⟨g, cur, rfl, _⟩ := hpos h0
                  simp only [Option.map_some, Addr.add_lit, Nat.add_zero]
                · rcases hf.row with ⟨ad', h5, h6, _⟩ | ⟨gg, cap', h5, h6, h7⟩
                  · simp only [Value.slice.injEq] at h5; omega
                  · simp only [Value.slice.injEq] at h5
                    obtain ⟨rfl, _⟩ := h5
                    simp only [Option.map_some, Addr.add_lit, Nat.add_zero]
            rw [e3]
            exact .pre b h.toNat (n := n) (by rw [← e1, e2]) (by omega) hcm
        | some l0 =>
          cases hi' with
          | some k => exact side.elim
          | none =>
            simp only [Option.map_none, Option.map_some, sliceO] at side ⊢
            obtain ⟨g0, g1, g2⟩ := side
            subst g0
            have hl := sim_opt s hlo 0 (l := loBound (some (evo S l0))) (by rw [lo_eq]; rfl) g1
            have hh := sim_opt s hhi n (l := n) rfl (by omega)
            generalize loBound (some (evo S l0)) = l at *
            refine Does.value s hd (key l n hl hh g1 (by omega) (Int.le_refl _)) rfl ?_
            rw [Int.toNat_natCast]
            exact .suf b i.size l.toNat (n := n) (by rw [← e1, e2]) (by omega)
  | _ => exact old side
theorem does_slice0 (s : Sim E fr S β a w) (hd : ∀ d, o.dst = some d → d < a.tmps.size) {t e : TypeId} {i : TypeInfo} {x : Operand} {x' : AOpd} (ho : o.op = .slice t x none (some (.const (.int .i64 0))) (some (.const (.int .i64 0)))) (hx : compOpd x = some x')
    (hu : P.underlying t = some (.slice e)) (hi : P.info? e = some i) (side : (effSlice0 (evo S x')).side) : Does P E fr S β a w nm o (effSlice0 (evo S x')) := by
  have h1 := sim_evo s hx
  have hsz : (sizeOf e).run P w = .ok i.size w := by simp [sizeOf, typeInfo, hi]
  have key : ∀ ad n cap, a.eval x = .slice ad n cap → (execOp a.eval o).run P w = .ok (.value (.slice ad 0 0)) w := by
    intro ad n cap e1
    have hb1 := run_sliceBound (P := P) w .i64 0 cap .slice3Acap (by omega) (by omega)
    have hb2 := run_sliceBound (P := P) w .i64 0 0 .slice3B (by omega) (by omega)
    have e0 : a.eval (.const (.int .i64 0)) = .int .i64 0 := rfl
    simp only [Int.toNat_zero] at hb1 hb2
    simp [execOp, ho, e1, e0, Instr.sliceAt, Instr.slice, run_underlying hu, hsz, Instr.sliceBounds, hb1, hb2]
  generalize evo S x' = ax at *
  cases ax with
  | sl es =>
    have hp := h1.sl_inv
    generalize hcc : a.eval x = c at *
    cases hp with
    | slE ad cap hcap => exact Does.value s hd (key _ _ _ rfl) rfl (.pure (.nils _))
    | slC es' g off cap sz f hc hm h0 hne hz hst hcell hr => exact Does.value s hd (key _ _ _ rfl) rfl (.pure (.nils _))
  | nils =>
    obtain ⟨ad, e1⟩ := h1.nils_inv
    exact Does.value s hd (key _ _ _ e1) rfl (.pure (.nils _))
  | _ => exact side.elim

end does
end Go.Ab
namespace Go.Ab
open Go.RowKit

theorem splice_length {xs ys : List AV} {o : Nat} (h : o + ys.length ≤ xs.length) : (splice xs o ys).length = xs.length := by
  simp [splice]; omega
theorem av_splice {xs ys : List AV} {o : Nat} (h : o + ys.length ≤ xs.length) (j : Nat) : av (splice xs o ys) j = if o ≤ j ∧ j < o + ys.length then av ys (j - o) else av xs j := by
  simp only [av, List.getD_eq_getElem?_getD, splice, List.append_assoc]
  by_cases h1 : j < o
  · rw [if_neg (by omega), List.getElem?_append_left (by simp; omega), List.getElem?_take, if_pos h1]
  · rw [List.getElem?_append_right (by simp; omega)]
    have e : (xs.take o).length = o := by simp; omega
    rw [e]
    by_cases h2 : j < o + ys.length
    · rw [if_pos (by omega), List.getElem?_append_left (by omega)]
    · rw [if_neg (by omega), List.getElem?_append_right (by omega), List.getElem?_drop]
      congr 2
      omega

/-- Lists of abstract and of concrete cells that fit. -/
def CellsFit (st : Nat → Prop) (β : Nat → Value) (w : World) (cs : List AV) (xs : List Value) : Prop :=
  xs.length = cs.length ∧ (∀ x ∈ xs, x.oneCell' = true) ∧ ∀ j, j < cs.length → SimV st β w (av cs j) (cv xs j)

def cspl (xs : List Value) (o : Nat) (ys : List Value) : List Value := xs.take o ++ ys ++ xs.drop (o + ys.length)
theorem cspl_length {xs ys : List Value} {o : Nat} (h : o + ys.length ≤ xs.length) : (cspl xs o ys).length = xs.length := by
  simp [cspl]; omega
theorem cv_cspl {xs ys : List Value} {o : Nat} (h : o + ys.length ≤ xs.length) (j : Nat) : cv (cspl xs o ys) j = if o ≤ j ∧ j < o + ys.length then cv ys (j - o) else cv xs j := by
  simp only [cv, List.getD_eq_getElem?_getD, cspl, List.append_assoc]
  by_cases h1 : j < o
  · rw [if_neg (by omega), List.getElem?_append_left (by simp; omega), List.getElem?_take, if_pos h1]
  · rw [List.getElem?_append_right (by simp; omega)]
    have e : (xs.take o).length = o := by simp; omega
    rw [e]
    by_cases h2 : j < o + ys.length
    · rw [if_pos (by omega), List.getElem?_append_left (by omega)]
    · rw [if_neg (by omega), List.getElem?_append_right (by omega), List.getElem?_drop]
      congr 2
      omega

theorem CellsFit.splice {st : Nat → Prop} {β : Nat → Value} {w : World} {cs ys : List AV} {xs vs : List Value} {o : Nat} (h : CellsFit st β w cs xs) (hv : CellsFit st β w ys vs) (ho : o + ys.length ≤ cs.length) :
    CellsFit st β w (splice cs o ys) (cspl xs o vs) := by
  have hl := h.1
  have hl2 := hv.1
  refine ⟨by rw [splice_length ho, cspl_length (by omega), hl], fun x hx => ?_, fun j hj => ?_⟩
  · simp only [cspl, List.append_assoc, List.mem_append] at hx
    rcases hx with hx | hx | hx
    · exact h.2.1 x (List.mem_of_mem_take hx)
    · exact hv.2.1 x hx
    · exact h.2.1 x (List.mem_of_mem_drop hx)
  · rw [splice_length ho] at hj
    rw [av_splice ho, cv_cspl (by omega), hl2]
    split
    · exact hv.2.2 _ (by omega)
    · exact h.2.2 j hj

theorem foldl_set (o : Nat) : ∀ (vs : List Value) (k : Nat) (cells : Array Value), o + k + vs.length ≤ cells.size →
    (vs.zipIdx k).foldl (fun cs (p : Value × Nat) => cs.setIfInBounds (o + p.2) p.1) cells = (cspl cells.toList (o + k) vs).toArray
  | [], k, cells, _ => by simp [cspl]
  | v :: vs, k, cells, h => by
    simp only [List.length_cons] at h
    simp only [List.zipIdx_cons, List.foldl_cons]
    rw [foldl_set o vs (k + 1) _ (by simp; omega)]
    congr 1
    apply List.ext_getElem
    · simp [cspl]; omega
    · intro j h1 h2
      have e1 : (cspl (cells.setIfInBounds (o + k) v).toList (o + (k + 1)) vs)[j]? = some (cv (cspl (cells.setIfInBounds (o + k) v).toList (o + (k + 1)) vs) j) := cv_getElem? h1
      have e2 : (cspl cells.toList (o + k) (v :: vs))[j]? = some (cv (cspl cells.toList (o + k) (v :: vs)) j) := cv_getElem? h2
      rw [List.getElem?_eq_getElem h1] at e1
      rw [List.getElem?_eq_getElem h2] at e2
      simp only [Option.some.injEq] at e1 e2
      rw [e1, e2, cv_cspl (by simp; omega), cv_cspl (by simp; omega)]
      simp only [Array.toList_setIfInBounds, List.length_cons]
      by_cases hj : j = o + k
      · subst hj
        rw [if_neg (by omega), if_pos (by omega)]
        have : o + k < cells.toList.length := by simp; omega
        simp [cv, List.getD_eq_getElem?_getD, show o + k < cells.size by omega]
      · by_cases hj2 : o + (k + 1) ≤ j ∧ j < o + (k + 1) + vs.length
        · rw [if_pos hj2, if_pos (by omega)]
          have : j - (o + k) = (j - (o + (k + 1))) + 1 := by omega
          rw [this]
          simp [cv, List.getD_eq_getElem?_getD]
        · rw [if_neg hj2, if_neg (by omega)]
          simp [cv, List.getD_eq_getElem?_getD, show ¬ o + k = j by omega]

section does
variable {P : Program} {E : Entry} {fr : Nat → Prop} {S : AState} {β : Nat → Value} {a : Act} {w : World} {nm : Nat} {o : Oper}

theorem SimV.fit {st : Nat → Prop} {β : Nat → Value} {w : World} {x : AV} {c : Value} (h : SimV st β w x c) (h1 : x.okCells) : CellsFit st β w x.cells c.cells.toList :=
  let ⟨h2, h3, h4⟩ := h.cells h1
  ⟨h2.symm, h3, h4⟩

theorem fill_fit (s : Sim E fr S β a w) (place : Nat → Option (Nat × Nat)) : ∀ (parts : List (Nat × Operand)) (ps : List (Nat × Nat × AOpd)) (cs : List AV) (cells : Array Value), partsOf P place parts = some ps →
    CellsFit (E.st w β S.h) β w cs cells.toList → (buildE S ps cs).1 →
    ∃ cells', Instr.fill place cells (parts.map fun p => (p.1, a.eval p.2)) = some cells' ∧ CellsFit (E.st w β S.h) β w (buildE S ps cs).2 cells'.toList
  | [], ps, cs, cells, hp, hf, _ => by
    simp [partsOf] at hp
    subst hp
    exact ⟨cells, rfl, hf⟩
  | (i, x) :: r, ps, cs, cells, hp, hf, hs => by
    simp only [partsOf] at hp
    cases h1 : place i with
    | none => simp [h1] at hp
    | some on =>
      obtain ⟨off, n⟩ := on
      cases h2 : compOpd x with
      | none => simp [h1, h2] at hp
      | some y =>
        cases h3 : partsOf P place r with
        | none => simp [h1, h2, h3] at hp
        | some ys =>
          simp [h1, h2, h3] at hp
          subst hp
          obtain ⟨⟨g1, g2, g3⟩, g4⟩ := hs
          have hv := (sim_evo s h2).fit g1
          have hlen : (a.eval x).cells.size = n := by have := hv.1; simp at this; omega
          have hcl : cells.size = cs.length := by have := hf.1; simpa using this
          have hfit := hf.splice hv (by omega : off + (evo S y).cells.length ≤ cs.length)
          have hfold : (a.eval x).cells.zipIdx.foldl (fun cs (p : Value × Nat) => cs.setIfInBounds (off + p.2) p.1) cells = (cspl cells.toList off (a.eval x).cells.toList).toArray := by
            rw [← Array.foldl_toList, Array.toList_zipIdx]
            exact foldl_set off (a.eval x).cells.toList 0 cells (by simp; omega)
          obtain ⟨cells', e1, e2⟩ := fill_fit s place r ys _ (cspl cells.toList off (a.eval x).cells.toList).toArray h3 (by simpa using hfit) g4
          refine ⟨cells', ?_, e2⟩
          simp only [List.map_cons, Instr.fill, h1]
          rw [if_neg (by simp; omega)]
          rw [← e1, ← hfold]

theorem fit_zero {st : Nat → Prop} {β : Nat → Value} {w : World} (zs : List Value) (h1 : ∀ x ∈ zs, x.oneCell' = true) : CellsFit st β w (zs.map AV.ofV) zs :=
  ⟨by simp, h1, fun j hj => by
    have hj' : j < zs.length := by simpa using hj
    have e : av (zs.map AV.ofV) j = AV.ofV (cv zs j) := by simp [av, cv, List.getD_eq_getElem?_getD, hj']
    rw [e]
    exact simv_ofV _⟩

theorem does_build (s : Sim E fr S β a w) (hd : ∀ d, o.dst = some d → d < a.tmps.size) {t : TypeId} {parts : Array (Nat × Operand)} {place : Nat → Option (Nat × Nat)} {z : Value} {ps : List (Nat × Nat × AOpd)} (ho : o.op = .build t parts)
    (hb : ∀ vs, P.built t vs = Instr.fill place z.cells vs) (hp : partsOf P place parts.toList = some ps) (h1 : z.cells.all (·.oneCell') = true)
    (side : (buildE S ps (z.cells.toList.map AV.ofV)).1) : Does P E fr S β a w nm o (.iff (buildE S ps (z.cells.toList.map AV.ofV)).1 (.agg (buildE S ps (z.cells.toList.map AV.ofV)).2)) := by
  have hz : ∀ x ∈ z.cells.toList, x.oneCell' = true := fun x hx => (Array.all_eq_true_iff_forall_mem.1 h1) x (by simpa using hx)
  obtain ⟨cells', e1, e2, e3, e4⟩ := fill_fit s place parts.toList ps _ z.cells hp (fit_zero _ hz) side
  have hm : ((parts.map fun p => (p.1, a.eval p.2)).toList) = parts.toList.map fun p => (p.1, a.eval p.2) := by simp
  have hr := run_build (P := P) w t (parts.map fun p => (p.1, a.eval p.2)) cells' (by rw [hb, hm]; exact e1)
  have ex : execOp a.eval o = (do pure (Next.value (← Instr.build t (parts.map fun (i, x) => (i, a.eval x)))) : Sem Next) := by
    unfold execOp
    rw [ho]
  refine Does.value s hd (c := .agg cells') ?_ rfl ?_
  · rw [ex]
    simp only [Sem.run_bind, hr, Result.andThen_ok, Sem.run_pure]
  · have := SimV.agg (st := E.st w β S.h) (β := β) (w := w) (buildE S ps (z.cells.toList.map AV.ofV)).2 cells'.toList e2.symm e3 e4
    rw [Array.toArray_toList] at this
    exact this

end does
end Go.Ab
namespace Go.Ab
open Go.RowKit

section does
variable {P : Program} {E : Entry} {fr : Nat → Prop} {S : AState} {β : Nat → Value} {a : Act} {w : World} {nm : Nat} {o : Oper}

theorem updL_one {α : Type} (f : Nat → α) (k : Nat) (x : α) : updL f [(k, x)] = upd f k x := rfl

/-- A new block in the cell array 'cells', its own pointer the value. -/
theorem does_newBox (s : Sim E fr S β a w) (hf : fr nm) (hd : ∀ d, o.dst = some d → d < a.tmps.size) {cs : List AV} {xs : List Value} {ty : TypeId}
    (hrun : (execOp a.eval o).run P w = .ok (.value (.pointer (some ⟨w.heap.size, 0, none⟩))) (w.alloc (.cells xs.toArray ty))) (hc : CellsFit (E.st w β S.h) β w cs xs) {e : Eff} (hv : e.val = .bp nm 0) (hu : e.ups = [(nm, some (.box cs))]) :
    Does P E fr S β a w nm o e := by
  intro K Q hK
  unfold Oper.wp
  rw [hrun, Oper.upon_value]
  refine hK (upd β nm (.pointer (some ⟨w.heap.size, 0, none⟩))) _ _ ?_
  unfold AState.app
  rw [hu, hv, updL_one]
  refine s.alloc o.dst hd hf _ _ _ rfl rfl rfl (by simp) (fun g hg => @heap_alloc_old w _ g hg) (fun st β' h => .bp nm 0 h) (fun g hg => by simp [blkOf] at hg; omega) (fun st β' hst hβ => ?_)
  refine ⟨w.heap.size, ty, xs, rfl, heap_alloc_new w _, hc.1, hc.2.1, fun j hj => (hc.2.2 j hj).mono hβ (fun g hg => ⟨hst g hg, @heap_alloc_old w _ g hg.1⟩)⟩

theorem does_alloc (s : Sim E fr S β a w) (hf : fr nm) (hd : ∀ d, o.dst = some d → d < a.tmps.size) {t : TypeId} {i : TypeInfo} {z : Value} (ho : o.op = .alloc t) (hi : P.info? t = some i) (hz : i.zero = some z) (h1 : z.cells.all (·.oneCell') = true) :
    Does P E fr S β a w nm o ⟨True, .bp nm 0, [(nm, some (.box (z.cells.toList.map AV.ofV)))], []⟩ := by
  have hz' : ∀ x ∈ z.cells.toList, x.oneCell' = true := fun x hx => (Array.all_eq_true_iff_forall_mem.1 h1) x (by simpa using hx)
  refine does_newBox s hf hd (xs := z.cells.toList) (ty := t) ?_ (fit_zero _ hz') rfl rfl
  simp [execOp, ho, Instr.alloc, zeroValue, typeInfo, hi, hz, newVar, newRow]

theorem does_box (s : Sim E fr S β a w) (hf : fr nm) (hd : ∀ d, o.dst = some d → d < a.tmps.size) {t : TypeId} {n : Nat} {x : Operand} {x' : AOpd} (ho : o.op = .box t x) (hx : compOpd x = some x')
    (side : (evo S x').okCells ∧ (evo S x').cells.length = n) : Does P E fr S β a w nm o ⟨(evo S x').okCells ∧ (evo S x').cells.length = n, .bp nm 0, [(nm, some (.box (evo S x').cells))], []⟩ := by
  have h1 := (sim_evo s hx).fit side.1
  refine does_newBox s hf hd (xs := (a.eval x).cells.toList) (ty := t) ?_ h1 rfl rfl
  simp [execOp, ho, Instr.box, newVar, newRow]

/-- A new row, its slice the value. -/
theorem does_newRow (s : Sim E fr S β a w) (hf : fr nm) (hd : ∀ d, o.dst = some d → d < a.tmps.size) {es : List (List AV)} {sz : Nat} {ty : TypeId} {c : Value} {w' : World} {xs : List Value}
    (hrun : (execOp a.eval o).run P w = .ok (.value c) w') (hg : w.grownBy w' none) (hr : RowRep w' ty sz c es.length xs) (hnew : ∀ g, blkOf c = some g → w.heap.size ≤ g) (hsl : ∃ ad n cap, c = .slice ad n cap)
    (hz : ∀ x ∈ es, x.length = sz) (h0 : 0 < sz) (h1 : ∀ x ∈ xs, x.oneCell' = true) (hc : ∀ i j, i < es.length → j < sz → PureV (E.st w β S.h) w (av (es.getD i []) j) (cv xs (i * sz + j)))
    {e : Eff} (hv : e.val = .own nm) (hu : e.ups = [(nm, some (.row es sz ty))]) : Does P E fr S β a w nm o e := by
  intro K Q hK
  unfold Oper.wp
  rw [hrun, Oper.upon_value]
  refine hK (upd β nm c) _ _ ?_
  unfold AState.app
  rw [hu, hv, updL_one]
  have hold : ∀ g, g < w.heap.size → w'.heap[g]? = w.heap[g]? := fun g hlt => hg.block g hlt (by simp)
  obtain ⟨ad, n, cap, rfl⟩ := hsl
  exact s.alloc o.dst hd hf _ _ _ hg.os hg.tape hg.output hg.size hold (fun st β' h => .own nm h) hnew
    (fun st β' hst hβ => ⟨xs, hz, h0, hr, h1, fun i j hi hj => (hc i j hi hj).mono (fun g hgs => ⟨hst g hgs, hold g hgs.1⟩)⟩)

/-- Elements of one size, laid one behind the other. -/
def RowCells (st : Nat → Prop) (w : World) (es : List (List AV)) (sz : Nat) (xs : List Value) : Prop :=
  xs.length = es.length * sz ∧ (∀ x ∈ es, x.length = sz) ∧ (∀ x ∈ xs, x.oneCell' = true) ∧ ∀ i j, i < es.length → j < sz → PureV st w (av (es.getD i []) j) (cv xs (i * sz + j))

theorem RowCells.nil (st : Nat → Prop) (w : World) (sz : Nat) : RowCells st w [] sz [] := ⟨by simp, by simp, by simp, fun i j hi => by simp at hi⟩
theorem cv_append (xs ys : List Value) (j : Nat) : cv (xs ++ ys) j = if j < xs.length then cv xs j else cv ys (j - xs.length) := by
  simp only [cv, List.getD_eq_getElem?_getD]
  split
  · rw [List.getElem?_append_left (by assumption)]
  · rw [List.getElem?_append_right (by omega)]
theorem RowCells.append {st : Nat → Prop} {w : World} {es es' : List (List AV)} {sz : Nat} {xs ys : List Value} (h : RowCells st w es sz xs) (k : RowCells st w es' sz ys) : RowCells st w (es ++ es') sz (xs ++ ys) := by
  obtain ⟨h1, h2, h3, h4⟩ := h
  obtain ⟨k1, k2, k3, k4⟩ := k
  refine ⟨by simp [h1, k1, Nat.add_mul], fun x hx => ?_, fun x hx => ?_, fun i j hi hj => ?_⟩
  · rcases List.mem_append.1 hx with hx | hx
    · exact h2 x hx
    · exact k2 x hx
  · rcases List.mem_append.1 hx with hx | hx
    · exact h3 x hx
    · exact k3 x hx
  · rw [cv_append, h1]
    by_cases hlt : i < es.length
    · rw [if_pos (mul_in hlt hj)]
      have : (es ++ es').getD i [] = es.getD i [] := by simp only [List.getD_eq_getElem?_getD]; rw [List.getElem?_append_left hlt]
      rw [this]
      exact h4 i j hlt hj
    · have hle : es.length * sz ≤ i * sz := Nat.mul_le_mul_right _ (by omega)
      rw [if_neg (by omega)]
      have : (es ++ es').getD i [] = es'.getD (i - es.length) [] := by simp only [List.getD_eq_getElem?_getD]; rw [List.getElem?_append_right (by omega)]
      rw [this]
      have e : i * sz + j - es.length * sz = (i - es.length) * sz + j := by rw [Nat.sub_mul]; omega
      rw [e]
      exact k4 _ j (by simp at hi; omega) hj
theorem RowCells.one {st : Nat → Prop} {w : World} {cs : List AV} {xs : List Value} {sz : Nat} (hl : cs.length = sz) (hx : xs.length = sz) (h1 : ∀ x ∈ xs, x.oneCell' = true) (hr : ∀ j, j < sz → PureV st w (av cs j) (cv xs j)) : RowCells st w [cs] sz xs :=
  ⟨by simp [hx], by simp [hl], h1, fun i j hi hj => by
    have : i = 0 := by simpa using hi
    subst this
    simpa using hr j hj⟩
theorem RowCells.of_fits {st : Nat → Prop} {w : World} {es : List (List AV)} {sz : Nat} {e : TypeId} {c : Value} {xs : List Value} (h : RowFits st w es sz e c xs) : RowCells st w es sz xs := ⟨h.row.len, h.z, h.one, h.cell⟩
theorem RowCells.mono {st st' : Nat → Prop} {w w' : World} (h : ∀ g, st g → st' g ∧ w'.heap[g]? = w.heap[g]?) {es : List (List AV)} {sz : Nat} {xs : List Value} (p : RowCells st w es sz xs) : RowCells st' w' es sz xs :=
  ⟨p.1, p.2.1, p.2.2.1, fun i j hi hj => (p.2.2.2 i j hi hj).mono h⟩

omit P nm in
theorem pure_of_row0 {st : Nat → Prop} {w : World} {es : List (List AV)} {sz : Nat} {e : TypeId} {c : Value} {xs : List Value} (h : RowFits st w es sz e c xs) (hc : ∀ g, blkOf c = some g → st g) : PureV st w (.sl es) c := by
  rcases h.row with ⟨a, rfl, h0, _⟩ | ⟨g, cap, rfl, h0, h1⟩
  · have : es = [] := List.eq_nil_of_length_eq_zero h0
    subst this
    exact .slE a 0 (Nat.zero_le _)
  · have hcap : es.length ≤ cap ∧ cap ≤ maxLen := by
      rcases h1.2 with ⟨h', _⟩ | ⟨g', cap', cur, h', _, _, h3, h4, _⟩
      · cases h'
      · simp at h'; omega
    by_cases hne : es = []
    · subst hne
      exact .slE _ cap hcap.2
    · refine .slC es g 0 cap sz (fun i j => cv xs (i * sz + j)) hcap.1 hcap.2 h.pos hne h.z (hc g (by simp [blkOf]; omega)) (fun i j hi hj => ?_) (fun i j hi hj => h.cell i j hi hj)
      have hlt : i * sz + j < xs.length := by rw [h.row.len]; exact mul_in hi hj
      rw [Nat.zero_add]
      exact ⟨h.row.cellAt rfl _ hlt, h.one _ (cv_mem hlt)⟩
omit P nm in
theorem SimV.deslf {st : Nat → Prop} {β : Nat → Value} {w : World} {c : Value} {x : AV} (h : SimV st β w x c) (h1 : x.deslf.flat = true) : PureV st w x.deslf c := by
  cases x with
  | slf es sz e =>
    obtain ⟨g, xs, rfl, hg, hf⟩ := h.slf_inv
    exact pure_of_row0 hf fun k hk => by
      have : k = g := by simp only [blkOf] at hk; split at hk <;> simp_all
      subst this; exact hg
  | _ => exact h.flat h1
omit P nm in
theorem av_map_deslf (cs : List AV) (j : Nat) (hj : j < cs.length) : av (cs.map AV.deslf) j = (av cs j).deslf := by
  simp [av, List.getD_eq_getElem?_getD, hj]
theorem fill_row (s : Sim E fr S β a w) (sz : Nat) (z : List Value) (hz : z.length = sz) : ∀ (parts : List (Nat × Operand)) (k : Nat) (ps : List AOpd) (done : List Value), inRow parts k = some ps → (rowE S sz ps).1 → done.length = k * sz →
    ∃ xs, Instr.fill (fun i => some (i * sz, sz)) (done ++ (List.replicate parts.length z).flatten).toArray (parts.map fun p => (p.1, a.eval p.2)) = some (done ++ xs).toArray ∧ RowCells (E.st w β S.h) w (rowE S sz ps).2 sz xs
  | [], k, ps, done, hp, _, _ => by
    simp [inRow] at hp
    subst hp
    exact ⟨[], by simp [Instr.fill], RowCells.nil _ _ _⟩
  | (i, x) :: r, k, ps, done, hp, hs, hl => by
    simp only [inRow] at hp
    by_cases hik : i = k
    · subst hik
      rw [if_pos rfl] at hp
      cases h2 : compOpd x with
      | none => simp [h2] at hp
      | some y =>
        cases h3 : inRow r (i + 1) with
        | none => simp [h2, h3] at hp
        | some ys =>
          simp [h2, h3] at hp
          subst hp
          obtain ⟨⟨g1, g2, g3⟩, g4⟩ := hs
          have hv := (sim_evo s h2).fit g1
          have hlen : (a.eval x).cells.size = sz := by have := hv.1; simp at this; omega
          obtain ⟨xs, e1, e2⟩ := fill_row s sz z hz r (i + 1) ys (done ++ (a.eval x).cells.toList) h3 g4 (by simp [hl, hlen, Nat.succ_mul])
          refine ⟨(a.eval x).cells.toList ++ xs, ?_, ?_⟩
          · have hfold := foldl_set (i * sz) (a.eval x).cells.toList 0 (done ++ (List.replicate (r.length + 1) z).flatten).toArray (by simp [hl, List.replicate_succ, hz, hlen])
            have hc : cspl (done ++ (List.replicate (r.length + 1) z).flatten) (i * sz) (a.eval x).cells.toList = done ++ (a.eval x).cells.toList ++ (List.replicate r.length z).flatten := by
              unfold cspl
              rw [List.replicate_succ, List.flatten_cons, ← hl, List.take_left, List.drop_append, List.drop_of_length_le (by omega)]
              congr 1
              rw [List.nil_append, show done.length + (a.eval x).cells.toList.length - done.length = z.length by simp [hlen, hz], List.drop_left]
            simp only [List.map_cons, Instr.fill, List.length_cons]
            rw [if_neg (by simp [hl, List.replicate_succ, hz, hlen])]
            have e3 : (a.eval x).cells.zipIdx.foldl (fun cs (p : Value × Nat) => cs.setIfInBounds (i * sz + p.2) p.1) (done ++ (List.replicate (r.length + 1) z).flatten).toArray = (done ++ (a.eval x).cells.toList ++ (List.replicate r.length z).flatten).toArray := by
              rw [← Array.foldl_toList, Array.toList_zipIdx, hfold]
              simp only [Nat.add_zero, hc]
            rw [e3, e1]
            simp
          · exact RowCells.append (es := [(evo S y).cells.map AV.deslf]) (RowCells.one (by simpa using g2) (by simp [hlen]) hv.2.1 (fun j hj => by
              have hjl : j < (evo S y).cells.length := by omega
              rw [av_map_deslf _ _ hjl]
              exact (hv.2.2 j hjl).deslf (g3 _ (List.mem_map.2 ⟨_, by simp [av, List.getD_eq_getElem?_getD, hjl], rfl⟩)))) e2
    · rw [if_neg hik] at hp
      cases hp

end does
end Go.Ab
namespace Go.Ab
open Go.RowKit

section does
variable {P : Program} {E : Entry} {fr : Nat → Prop} {S : AState} {β : Nat → Value} {a : Act} {w : World} {nm : Nat} {o : Oper}

theorem rowE_length (S : AState) (sz : Nat) : ∀ ps : List AOpd, (rowE S sz ps).2.length = ps.length
  | [] => rfl
  | _ :: r => by simp [rowE, rowE_length S sz r]
theorem inRow_length : ∀ (parts : List (Nat × Operand)) (k : Nat) (ps : List AOpd), inRow parts k = some ps → parts.length = ps.length
  | [], k, ps, h => by simp [inRow] at h; subst h; rfl
  | (i, x) :: r, k, ps, h => by
    simp only [inRow] at h
    split at h
    · cases h2 : compOpd x with
      | none => simp [h2] at h
      | some y => cases h3 : inRow r (k + 1) with
        | none => simp [h2, h3] at h
        | some ys =>
          simp [h2, h3] at h
          subst h
          simp [inRow_length r (k + 1) ys h3]
    · cases h

theorem run_buildSlice (s : Sim E fr S β a w) (hf : fr nm) (hd : ∀ d, o.dst = some d → d < a.tmps.size) {t e : TypeId} {len : Nat} {i : TypeInfo} {z : Value} {parts : Array (Nat × Operand)} {ps : List AOpd} (ho : o.op = .buildSlice t len parts)
    (hu : P.underlying t = some (.slice e)) (hi : P.info? e = some i) (hz : i.zero = some z) (hp : inRow parts.toList 0 = some ps) (hl : ps.length = len) (h0 : 0 < i.size) (hm : len * i.size ≤ 65536) (hzs : z.cells.size = i.size)
    (side : (rowE S i.size ps).1) : ∃ xs : List Value, xs.length = len * i.size ∧ xs.length = (rowE S i.size ps).2.length * i.size ∧ (∀ x ∈ (rowE S i.size ps).2, x.length = i.size) ∧ (∀ x ∈ xs, x.oneCell' = true) ∧ (∀ k j, k < (rowE S i.size ps).2.length → j < i.size → PureV (E.st w β S.h) w (av ((rowE S i.size ps).2.getD k []) j) (cv xs (k * i.size + j))) ∧
      (execOp a.eval o).run P w = .ok (.value (.slice (some ⟨w.heap.size, 0, none⟩) len len)) (w.alloc (.cells xs.toArray e)) := by
  obtain ⟨xs, e1, e2⟩ := fill_row s i.size z.cells.toList (by simpa using hzs) parts.toList 0 ps [] hp side (by simp)
  have hpl := inRow_length _ _ _ hp
  have hxl : xs.length = len * i.size := by rw [e2.1, rowE_length, hl]
  have hnn : len ≤ len * i.size := Nat.le_mul_of_pos_right len h0
  have hcells : (((Array.range (len * i.size)).map (fun k => z.cells[k % z.cells.size]!)) : Array Value) = (List.replicate parts.toList.length z.cells.toList).flatten.toArray := by
    apply Array.ext'
    apply List.ext_getElem?
    intro k
    simp only [Array.toList_map, Array.toList_range, List.getElem?_map]
    by_cases hk : k < len * i.size
    · have hmod : k % i.size < i.size := Nat.mod_lt _ h0
      have hdiv : k / i.size < parts.toList.length := by rw [hpl, hl]; exact (Nat.div_lt_iff_lt_mul h0).2 hk
      have hflat : ∀ (n q r : Nat), q < n → r < z.cells.toList.length → (List.replicate n z.cells.toList).flatten[q * z.cells.toList.length + r]? = z.cells.toList[r]? := by
        intro n
        induction n with
        | zero => intro q r hq; omega
        | succ n ih =>
          intro q r hq hr
          rw [List.replicate_succ, List.flatten_cons]
          cases q with
          | zero => rw [Nat.zero_mul, Nat.zero_add, List.getElem?_append_left hr]
          | succ q =>
            rw [List.getElem?_append_right (by rw [Nat.succ_mul]; omega), ← ih q r (by omega) hr]
            congr 1
            rw [Nat.succ_mul]; omega
      have hzl : z.cells.toList.length = i.size := by simpa using hzs
      have := hflat parts.toList.length (k / i.size) (k % i.size) hdiv (by omega)
      rw [hzl, show k / i.size * i.size + k % i.size = k by rw [Nat.mul_comm]; exact Nat.div_add_mod k i.size] at this
      rw [List.getElem?_range hk]
      simp only [Option.map_some, hzs]
      rw [this]
      have hb : k % i.size < z.cells.size := by omega
      rw [getElem!_pos z.cells (k % i.size) (by omega), Array.getElem?_toList, Array.getElem?_eq_getElem hb]
    · have : (List.replicate parts.toList.length z.cells.toList).flatten.length = len * i.size := by
        rw [List.length_flatten, List.map_replicate, List.sum_replicate_nat]; simp only [Array.length_toList, hzs, hpl, hl]
      rw [List.getElem?_eq_none (by simp; omega), List.getElem?_eq_none (by simp only [this]; omega)]
      rfl
  refine ⟨xs, hxl, e2.1, e2.2.1, e2.2.2.1, e2.2.2.2, ?_⟩
  show (execOp a.eval o).run P w = .ok (.value (.slice (some ⟨w.heap.size, 0, none⟩) len len)) (w.alloc (.cells xs.toArray e))
  have hsz : (sizeOf e).run P w = .ok i.size w := by simp [sizeOf, typeInfo, hi]
  have hzv : (zeroValue e).run P w = .ok z w := by simp [zeroValue, typeInfo, hi, hz]
  have hgt : ¬ (len * i.size > 2 ^ 24) := by omega
  have hm' : ((parts.map fun p => (p.1, a.eval p.2)).toList) = parts.toList.map fun p => (p.1, a.eval p.2) := by simp
  have ex : execOp a.eval o = (do pure (Next.value (← Instr.buildSlice t len (parts.map fun (i, x) => (i, a.eval x)))) : Sem Next) := by
    unfold execOp
    rw [ho]
  rw [ex]
  simp only [List.nil_append] at e1
  by_cases hlz : len * i.size = 0
  · have hl0 : len = 0 := by omega
    have hx0 : xs = [] := List.eq_nil_of_length_eq_zero (by rw [hxl, hlz])
    have hp0 : parts.toList = [] := List.eq_nil_of_length_eq_zero (by omega)
    subst hx0
    have hps : parts = #[] := by apply Array.ext'; simpa using hp0
    subst hps
    subst hl0
    simp [Instr.buildSlice, run_underlying hu, hsz, Instr.fill, newRow, Array.range_zero']
  · simp only [Instr.buildSlice, Sem.run_bind, run_underlying hu, Result.andThen_ok, hsz, Sem.run_ite, hgt, if_false, hlz, hzv, Sem.run_pure, hcells, hm', e1, newRow]
    rfl
theorem does_buildSlice (s : Sim E fr S β a w) (hf : fr nm) (hd : ∀ d, o.dst = some d → d < a.tmps.size) {t e : TypeId} {len : Nat} {i : TypeInfo} {z : Value} {parts : Array (Nat × Operand)} {ps : List AOpd} (ho : o.op = .buildSlice t len parts)
    (hu : P.underlying t = some (.slice e)) (hi : P.info? e = some i) (hz : i.zero = some z) (hp : inRow parts.toList 0 = some ps) (hl : ps.length = len) (h0 : 0 < i.size) (hm : len * i.size ≤ 65536) (hzs : z.cells.size = i.size)
    (side : (rowE S i.size ps).1) : Does P E fr S β a w nm o ⟨(rowE S i.size ps).1, .own nm, [(nm, some (.row (rowE S i.size ps).2 i.size e))], []⟩ := by
  obtain ⟨xs, hxl, e21, e22, e23, e24, hrun⟩ := run_buildSlice s hf hd ho hu hi hz hp hl h0 hm hzs side
  refine does_newRow (xs := xs) s hf hd hrun (World.grownBy_alloc w _ none) ?_ (fun g hg => ?_) ⟨_, _, _, rfl⟩ e22 h0 e23 e24 rfl rfl
  · have hnn : len ≤ len * i.size := Nat.le_mul_of_pos_right len h0
    rw [rowE_length, hl]
    have := World.ownsRow_lit (base := 0) (e := e) (size := i.size) w xs.toArray len (Nat.zero_le _) (by unfold maxLen; omega) (by simpa using hxl)
    exact RowRep.of_owns (by simpa using this)
  · simp only [blkOf] at hg
    split at hg
    · cases hg
    · simp at hg; omega
theorem does_buildFull (s : Sim E fr S β a w) (hf : fr nm) (hd : ∀ d, o.dst = some d → d < a.tmps.size) {t e : TypeId} {len : Nat} {i : TypeInfo} {z : Value} {parts : Array (Nat × Operand)} {ps : List AOpd} (ho : o.op = .buildSlice t len parts)
    (hu : P.underlying t = some (.slice e)) (hi : P.info? e = some i) (hz : i.zero = some z) (hp : inRow parts.toList 0 = some ps) (hl : ps.length = len) (h0 : 0 < i.size) (hm : len * i.size ≤ 65536) (hzs : z.cells.size = i.size)
    (side : ps ≠ [] ∧ (rowE S i.size ps).1) : Does P E fr S β a w nm o ⟨ps ≠ [] ∧ (rowE S i.size ps).1, .slf (rowE S i.size ps).2 i.size e, [], []⟩ := by
  obtain ⟨xs, hxl, e21, e22, e23, e24, hrun⟩ := run_buildSlice s hf hd ho hu hi hz hp hl h0 hm hzs side.2
  have hnn : len ≤ len * i.size := Nat.le_mul_of_pos_right len h0
  have hrl : (rowE S i.size ps).2.length = len := by rw [rowE_length, hl]
  have hpos : 0 < len := by rw [← hl]; exact List.length_pos_iff.2 side.1
  have hw := World.grownBy_alloc w (.cells xs.toArray e) none
  intro K Q hK
  unfold Oper.wp
  rw [hrun, Oper.upon_value]
  refine hK β _ _ ?_
  have hold : ∀ g, g < w.heap.size → (w.alloc (.cells xs.toArray e)).heap[g]? = w.heap[g]? := fun g hlt => hw.block g hlt (by simp)
  have hS : (S.app o.dst ⟨ps ≠ [] ∧ (rowE S i.size ps).1, .slf (rowE S i.size ps).2 i.size e, [], []⟩).h = S.h := rfl
  refine s.step (fun _ => False) (fun g h => h.elim) hw.os hw.tape hw.output hw.size (fun g h1 _ => hold g h1) (Grows.refl _) (fun k hk => s.fresh k hk.1) (fun k blk hk => .inl ⟨hk, fun g _ h => h⟩) s.inj (size_put _ _ _) (by rw [defers_put]; exact s.df) (fun hst => ?_)
  have h1 : ∀ q, SimV (E.st (w.alloc (.cells xs.toArray e)) β S.h) β (w.alloc (.cells xs.toArray e)) (S.t q) (a.tmps.getD q undef) := fun q => (s.tm q).mono (Grows.refl _) hst
  have hx : SimV (E.st (w.alloc (.cells xs.toArray e)) β S.h) β (w.alloc (.cells xs.toArray e)) (.slf (rowE S i.size ps).2 i.size e) (.slice (some ⟨w.heap.size, 0, none⟩) len len) := by
    have hr : RowRep (w.alloc (.cells xs.toArray e)) e i.size (.slice (some ⟨w.heap.size, 0, none⟩) len len) len xs := by
      have := World.ownsRow_lit (base := 0) (e := e) (size := i.size) w xs.toArray len (Nat.zero_le _) (by unfold maxLen; omega) (by simpa using hxl)
      exact RowRep.of_owns (by simpa using this)
    have := SimV.slf (st := E.st (w.alloc (.cells xs.toArray e)) β S.h) (β := β) (w := w.alloc (.cells xs.toArray e)) (rowE S i.size ps).2 i.size e (g := w.heap.size) (xs := xs) ?_ ?_
    · rw [hrl] at this; exact this
    · refine ⟨by simp, .inr s.size, fun n b hb hg => ?_⟩
      have := (s.bl n b hb).lt hg
      omega
    · rw [hrl]
      exact ⟨e22, h0, by rw [hrl]; exact hr, e23, fun k j hk hj => (e24 k j hk hj).mono hst⟩
  exact sim_put h1 o.dst hd hx

end does
end Go.Ab
namespace Go.Ab
open Go.RowKit

section does
variable {P : Program} {E : Entry} {fr : Nat → Prop} {S : AState} {β : Nat → Value} {a : Act} {w : World} {nm : Nat} {o : Oper}

theorem pure_ofV {st : Nat → Prop} {u : World} (x : Value) : PureV st u (AV.ofV x) x := by
  unfold AV.ofV
  split
  · exact .nils none
  · exact .v _

theorem does_make (s : Sim E fr S β a w) (hf : fr nm) (hd : ∀ d, o.dst = some d → d < a.tmps.size) {t e : TypeId} {i : TypeInfo} {z : Value} {x : Operand} {x' : AOpd} (ho : o.op = .makeSlice t x x) (hx : compOpd x = some x')
    (hu : P.underlying t = some (.slice e)) (hi : P.info? e = some i) (hz : i.zero = some z) (h0 : 0 < i.size) (hzs : z.cells.size = i.size) (h1 : z.cells.all (·.oneCell') = true) (side : (effMake nm e i.size i.bytes z.cells.toList (evo S x')).side) :
    Does P E fr S β a w nm o (effMake nm e i.size i.bytes z.cells.toList (evo S x')) := by
  have hs := sim_evo s hx
  generalize evo S x' = ax at *
  cases ax with
  | v q => cases q with
    | int k n =>
      have e1 := hs.v_inv
      obtain ⟨g1, g2, g3⟩ : 0 ≤ n ∧ i.bytes * n ≤ 281474976710656 ∧ n ≤ 9223372036854775807 := side
      obtain ⟨m, rfl⟩ := Int.eq_ofNat_of_zero_le g1
      have g2' : i.bytes * m ≤ 281474976710656 := by
        have h : ((i.bytes * m : Nat) : Int) ≤ 281474976710656 := by rw [Int.natCast_mul]; exact g2
        omega
      obtain ⟨w', r1, r2, r3⟩ := run_make_full (P := P) w 0 t e i z i.size hu hi hz rfl k k m g2' (by unfold maxLen; omega) (Nat.zero_le _)
      have hrun : (execOp a.eval o).run P w = .ok (.value (.slice (some ⟨w.heap.size, 0, none⟩) m m)) w' := by
        simp only [execOp, ho, e1, Sem.run_bind, r1, Result.andThen_ok, Sem.run_pure]
      have hz1 : ∀ x ∈ z.cells.toList, x.oneCell' = true := fun x hx => (Array.all_eq_true_iff_forall_mem.1 h1) x (by simpa using hx)
      have hget : ∀ q, q < m * i.size → (madeCells z.cells (m * i.size)).toList[q]? = some (cv z.cells.toList (q % i.size)) := by
        intro q hq
        have hmod : q % i.size < z.cells.size := by rw [hzs]; exact Nat.mod_lt _ h0
        have : (madeCells z.cells (m * i.size))[q]? = some (z.cells[q % z.cells.size]!) := by
          unfold madeCells
          rw [Array.getElem?_eq_getElem (by simpa using hq), Array.getElem_map, Array.getElem_range]
        rw [Array.getElem?_toList, this, hzs, getElem!_pos z.cells _ hmod]
        simp [cv, List.getD_eq_getElem?_getD, hmod]
      refine does_newRow (ty := e) (xs := (madeCells z.cells (m * i.size)).toList) (es := List.replicate m (z.cells.toList.map AV.ofV)) s hf hd hrun r3 ?_ (fun g hg => ?_) ⟨_, _, _, rfl⟩ (fun y hy => ?_) h0 (fun y hy => ?_) (fun p j hp hj => ?_) rfl (by simp [effMake])
      · rw [List.length_replicate]; exact RowRep.of_owns r2
      · simp only [blkOf] at hg
        split at hg
        · cases hg
        · simp at hg; omega
      · rw [List.eq_of_mem_replicate hy]; simp [hzs]
      · obtain ⟨q, hq, rfl⟩ := List.getElem_of_mem hy
        have hq' : q < m * i.size := by simpa [size_madeCells] using hq
        have := hget q hq'
        rw [List.getElem?_eq_getElem hq] at this
        simp only [Option.some.injEq] at this
        rw [this]
        exact hz1 _ (cv_mem (by simp [hzs]; exact Nat.mod_lt _ h0))
      · have hp' : p < m := by simpa using hp
        have := hget (p * i.size + j) (mul_in hp' hj)
        have e2 : (p * i.size + j) % i.size = j := by rw [Nat.mul_comm, Nat.mul_add_mod]; exact Nat.mod_eq_of_lt hj
        rw [e2] at this
        have e3 : cv (madeCells z.cells (m * i.size)).toList (p * i.size + j) = cv z.cells.toList j := by simp [cv, List.getD_eq_getElem?_getD] at this ⊢; simp [this]
        rw [e3]
        have e4 : (List.replicate m (z.cells.toList.map AV.ofV)).getD p [] = z.cells.toList.map AV.ofV := by simp [List.getD_eq_getElem?_getD, hp']
        rw [e4]
        have hj' : j < z.cells.toList.length := by simp [hzs]; exact hj
        have e5 : av (z.cells.toList.map AV.ofV) j = AV.ofV (cv z.cells.toList j) := by simp only [av, cv, List.getD_eq_getElem?_getD, List.getElem?_map, List.getElem?_eq_getElem hj', Option.map_some, Option.getD_some]
        rw [e5]
        exact pure_ofV _
    | _ => exact side.elim
  | _ => exact side.elim

theorem cspl_get {l ys : List Value} {k : Nat} (h : k + ys.length ≤ l.length) (j : Nat) : (cspl l k ys)[j]? = if k ≤ j ∧ j < k + ys.length then ys[j - k]? else l[j]? := by
  simp only [cspl, List.append_assoc]
  by_cases h1 : j < k
  · rw [if_neg (by omega), List.getElem?_append_left (by simp; omega), List.getElem?_take, if_pos h1]
  · rw [List.getElem?_append_right (by simp; omega)]
    have e : (l.take k).length = k := by simp; omega
    rw [e]
    by_cases h2 : j < k + ys.length
    · rw [if_pos (by omega), List.getElem?_append_left (by omega)]
    · rw [if_neg (by omega), List.getElem?_append_right (by omega), List.getElem?_drop]
      congr 1
      omega
theorem take_cspl {l ys : List Value} {k n : Nat} (h : k + ys.length ≤ n) (hn : n ≤ l.length) : (cspl l k ys).take n = cspl (l.take n) k ys := by
  apply List.ext_getElem?
  intro j
  rw [List.getElem?_take, cspl_get (by omega), cspl_get (by simp; omega), List.getElem?_take]
  by_cases hj : j < n
  · rw [if_pos hj, if_pos hj]
  · rw [if_neg hj, if_neg hj, if_neg (by omega)]

/-- A write into an own block. -/
theorem does_write (s : Sim E fr S β a w) (hd : ∀ d, o.dst = some d → d < a.tmps.size) {b g : Nat} {old new : Blk} (hb : S.h b = some old) (hg : blkOf (β b) = some g) {w' : World}
    (hrun : (execOp a.eval o).run P w = .ok .skip w') (hw : w.grownBy w' (some g)) 
    (hnew : ∀ st : Nat → Prop, (∀ k, E.st w β S.h k → st k ∧ w'.heap[k]? = w.heap[k]?) → BlkRep st β w' new (β b)) {e : Eff} (hv : e.val = .tup []) (hu : e.ups = [(b, some new)]) : Does P E fr S β a w nm o e := by
  intro K Q hK
  unfold Oper.wp
  rw [hrun, Oper.upon_skip]
  refine hK β undef w' ?_
  unfold AState.app
  rw [hu, hv, updL_one]
  have hst : ∀ k, E.st w β S.h k → E.st w' β (upd S.h b (some new)) k ∧ w'.heap[k]? = w.heap[k]? := by
    intro k ⟨h1, h2, h3⟩
    have hk : some k ≠ some g := fun e => by simp at e; subst e; exact h3 b old hb hg
    refine ⟨⟨Nat.lt_of_lt_of_le h1 hw.size, h2, fun n x hx => ?_⟩, hw.block k h1 hk⟩
    by_cases hn : n = b
    · subst hn; exact h3 n old hb
    · simp only [upd, hn, if_false] at hx
      exact h3 n x hx
  refine s.step (fun k => k = g) (fun k hk => ⟨b, old, hb, by rw [hk]; exact hg⟩) hw.os hw.tape hw.output hw.size (fun k hk hne => hw.block k hk (by simpa using hne)) (Grows.refl _) (fun n hn => s.fresh n hn.1) (fun n x hx => ?_) ?_ (size_put _ _ _) (by rw [defers_put]; exact s.df) (fun _ => ?_)
  · by_cases hn : n = b
    · subst hn
      simp only [upd, if_true, Option.some.injEq] at hx
      subst hx
      exact .inr ⟨fun _ => hnew _ hst, fun k hk => .inr (by rw [hg] at hk; simpa using hk.symm)⟩
    · simp only [upd, hn, if_false] at hx
      exact .inl ⟨hx, fun k hk e => hn (s.inj n b x old k hx hb hk (by rw [e]; exact hg))⟩
  · intro n m x y k hx hy hk hk'
    have h1 : ∃ x, S.h n = some x := by
      by_cases hn : n = b
      · subst hn; exact ⟨_, hb⟩
      · simp only [upd, hn, if_false] at hx; exact ⟨_, hx⟩
    have h2 : ∃ y, S.h m = some y := by
      by_cases hn : m = b
      · subst hn; exact ⟨_, hb⟩
      · simp only [upd, hn, if_false] at hy; exact ⟨_, hy⟩
    obtain ⟨x', hx'⟩ := h1
    obtain ⟨y', hy'⟩ := h2
    exact s.inj n m x' y' k hx' hy' hk hk'
  · refine sim_put (fun t => (s.tm t).mono (Grows.refl _) hst) o.dst hd ?_
    exact .pure (.tup [] [] rfl (fun j hj => by simp at hj))

/-- The same, with a value. -/
theorem does_writeV (s : Sim E fr S β a w) (hd : ∀ d, o.dst = some d → d < a.tmps.size) {b g : Nat} {old new : Blk} (hb : S.h b = some old) (hg : blkOf (β b) = some g) {w' : World}
    {c : Value} (hrun : (execOp a.eval o).run P w = .ok (.value c) w') (hw : w.grownBy w' (some g)) 
    (hnew : ∀ st : Nat → Prop, (∀ k, E.st w β S.h k → st k ∧ w'.heap[k]? = w.heap[k]?) → BlkRep st β w' new (β b)) {e : Eff} (hv : ∀ st, SimV st β w' e.val c) (hu : e.ups = [(b, some new)]) : Does P E fr S β a w nm o e := by
  intro K Q hK
  unfold Oper.wp
  rw [hrun, Oper.upon_value]
  refine hK β c w' ?_
  unfold AState.app
  rw [hu, updL_one]
  have hst : ∀ k, E.st w β S.h k → E.st w' β (upd S.h b (some new)) k ∧ w'.heap[k]? = w.heap[k]? := by
    intro k ⟨h1, h2, h3⟩
    have hk : some k ≠ some g := fun e => by simp at e; subst e; exact h3 b old hb hg
    refine ⟨⟨Nat.lt_of_lt_of_le h1 hw.size, h2, fun n x hx => ?_⟩, hw.block k h1 hk⟩
    by_cases hn : n = b
    · subst hn; exact h3 n old hb
    · simp only [upd, hn, if_false] at hx
      exact h3 n x hx
  refine s.step (fun k => k = g) (fun k hk => ⟨b, old, hb, by rw [hk]; exact hg⟩) hw.os hw.tape hw.output hw.size (fun k hk hne => hw.block k hk (by simpa using hne)) (Grows.refl _) (fun n hn => s.fresh n hn.1) (fun n x hx => ?_) ?_ (size_put _ _ _) (by rw [defers_put]; exact s.df) (fun _ => ?_)
  · by_cases hn : n = b
    · subst hn
      simp only [upd, if_true, Option.some.injEq] at hx
      subst hx
      exact .inr ⟨fun _ => hnew _ hst, fun k hk => .inr (by rw [hg] at hk; simpa using hk.symm)⟩
    · simp only [upd, hn, if_false] at hx
      exact .inl ⟨hx, fun k hk e => hn (s.inj n b x old k hx hb hk (by rw [e]; exact hg))⟩
  · intro n m x y k hx hy hk hk'
    have h1 : ∃ x, S.h n = some x := by
      by_cases hn : n = b
      · subst hn; exact ⟨_, hb⟩
      · simp only [upd, hn, if_false] at hx; exact ⟨_, hx⟩
    have h2 : ∃ y, S.h m = some y := by
      by_cases hn : m = b
      · subst hn; exact ⟨_, hb⟩
      · simp only [upd, hn, if_false] at hy; exact ⟨_, hy⟩
    obtain ⟨x', hx'⟩ := h1
    obtain ⟨y', hy'⟩ := h2
    exact s.inj n m x' y' k hx' hy' hk hk'
  · refine sim_put (fun t => (s.tm t).mono (Grows.refl _) hst) o.dst hd ?_
    exact hv _

theorem run_storeAt {t ty : TypeId} {i : TypeInfo} (hi : P.info? t = some i) (g off : Nat) (c : Value) (cur : Array Value) (hg : w.heap[g]? = some (.cells cur ty (0, 0))) (hn : c.cells.size = i.size) (hfit : off + i.size ≤ cur.size) (h1 : ∀ u ∈ c.cells.toList, u.oneCell' = true) :
    (Instr.storeAt t (.pointer (some ⟨g, off, none⟩)) c).run P w = .ok () (w.setRow g (cspl cur.toList off c.cells.toList).toArray) := by
  have := run_storeCells_at P g off ty c.cells.toList 0 cur w hg (by simp; omega) h1
  simp only [Nat.add_zero] at this
  simp [Instr.storeAt, Instr.sureAddr, storeVar, sizeOf, typeInfo, hi, hn, this, cspl]

theorem does_store (s : Sim E fr S β a w) (hd : ∀ d, o.dst = some d → d < a.tmps.size) {t : TypeId} {i : TypeInfo} {p x : Operand} {p' x' : AOpd} (ho : o.op = .store t p x) (hp : compOpd p = some p') (hx : compOpd x = some x')
    (hi : P.info? t = some i) (side : (effStore S.h i.size (evo S p') (evo S x')).side) : Does P E fr S β a w nm o (effStore S.h i.size (evo S p') (evo S x')) := by
  have h1 := sim_evo s hp
  have h2 := sim_evo s hx
  have key : ∀ g off (cur : Array Value) ty, a.eval p = .pointer (some ⟨g, off, none⟩) → w.heap[g]? = some (.cells cur ty (0, 0)) → (a.eval x).cells.size = i.size → off + i.size ≤ cur.size → (∀ u ∈ (a.eval x).cells.toList, u.oneCell' = true) →
      (execOp a.eval o).run P w = .ok .skip (w.setRow g (cspl cur.toList off (a.eval x).cells.toList).toArray) := by
    intro g off cur ty e1 hg hn hfit hu
    have hr := run_storeAt (P := P) hi g off (a.eval x) cur hg hn hfit hu
    simp only [execOp, ho, e1, Sem.run_bind, hr, Result.andThen_ok, Sem.run_pure]
  generalize evo S p' = ap at *
  generalize evo S x' = ax at *
  have grown : ∀ g cs, w.grownBy (w.setRow g cs) (some g) := fun g cs => ⟨rfl, rfl, rfl, by simp, fun k _ hk => setRow_other w g k _ (fun e => hk (by simp [e]))⟩
  cases ap with
  | bp b k =>
    obtain ⟨g, hb, e1⟩ := h1.bp_inv
    cases hB : S.h b with
    | none => simp [effStore, hB, Eff.fail] at side
    | some blk => cases blk with
      | row es sz e => simp [effStore, hB, Eff.fail] at side
      | iter q p => simp [effStore, hB, Eff.fail] at side
      | rowX _ _ _ => simp [effStore, hB, Eff.fail] at side
      | map _ _ => simp [effStore, hB, Eff.fail] at side
      | rowS _ _ _ _ => simp [effStore, hB, Eff.fail] at side
      | box cs =>
        have he : effStore S.h i.size (.bp b k) ax = ⟨ax.okCells ∧ ax.cells.length = i.size ∧ k + i.size ≤ cs.length, .tup [], [(b, some (.box (splice cs k ax.cells)))], [b]⟩ := by simp [effStore, hB]
        rw [he] at side ⊢
        obtain ⟨g1, g2, g3⟩ := side
        have hv := h2.fit g1
        obtain ⟨g', ty, xs, f1, f2, f3, f4, f5⟩ := s.bl b _ hB
        rw [hb] at f1
        simp at f1
        subst f1
        have hlen : (a.eval x).cells.size = i.size := by have := hv.1; simp at this; omega
        have hr := key g k xs.toArray ty e1 f2 hlen (by simp; omega) hv.2.1
        have hfit : CellsFit (E.st w β S.h) β w cs xs := ⟨f3, f4, f5⟩
        have hfit' := hfit.splice hv (by omega : k + ax.cells.length ≤ cs.length)
        refine does_write (g := g) (new := .box (splice cs k ax.cells)) s hd hB (by rw [hb]; rfl) hr (grown _ _) (fun st hst => ?_) rfl rfl
        refine ⟨g, ty, cspl xs k (a.eval x).cells.toList, hb, setRow_heap w g _ _ ty _ f2, hfit'.1, hfit'.2.1, fun j hj => (hfit'.2.2 j hj).mono (Grows.refl _) hst⟩
  | ep b sz q k =>
    obtain ⟨g, n, cap, hb, e1⟩ := h1.ep_inv
    cases hB : S.h b with
    | none => simp [effStore, hB, Eff.fail] at side
    | some blk => cases blk with
      | box cs => simp [effStore, hB, Eff.fail] at side
      | iter q p => simp [effStore, hB, Eff.fail] at side
      | rowX _ _ _ => simp [effStore, hB, Eff.fail] at side
      | map _ _ => simp [effStore, hB, Eff.fail] at side
      | rowS _ _ _ _ => simp [effStore, hB, Eff.fail] at side
      | row es sz' e =>
        have he : effStore S.h i.size (.ep b sz q k) ax = ⟨ax.okCells ∧ ax.cells.length = i.size ∧ (∀ c ∈ ax.cells, c.flat = true) ∧ sz = sz' ∧ q < es.length ∧ k + i.size ≤ sz, .tup [], [(b, some (.row (es.set q (splice (es.getD q []) k ax.cells)) sz e))], [b]⟩ := by simp [effStore, hB]
        rw [he] at side ⊢
        obtain ⟨g1, g2, g3, rfl, g5, g6⟩ := side
        have hv := h2.fit g1
        have hlen : (a.eval x).cells.size = i.size := by have := hv.1; simp at this; omega
        obtain ⟨xs, hf⟩ := s.bl b _ hB
        rw [hb] at hf
        rcases hf.row with ⟨ad', h5, h6, _⟩ | ⟨gg, cap', h5, h6, h7⟩
        · omega
        · simp at h5
          obtain ⟨rfl, rfl, rfl⟩ := h5
          rcases h7.2 with ⟨h8, _⟩ | ⟨g', cap', cur, h8, h9, h10, h11, h12, h13, h14⟩
          · cases h8
          · simp at h8
            obtain ⟨rfl, rfl⟩ := h8
            have hq : q * sz + sz ≤ es.length * sz := by rw [← Nat.succ_mul]; exact Nat.mul_le_mul_right _ g5
            have hcap : es.length * sz ≤ cap * sz := Nat.mul_le_mul_right _ h11
            have hr := key g (q * sz + k) cur e e1 h10 hlen (by omega) hv.2.1
            refine does_write (g := g) (new := .row (es.set q (splice (es.getD q []) k ax.cells)) sz e) s hd hB (by rw [hb]; simp [blkOf]; omega) hr (grown _ _) (fun st hst => ?_) rfl rfl
            have hxs : xs.length = es.length * sz := h7.1
            have hel : (es.getD q []).length = sz := hf.z _ (by simp [List.getD_eq_getElem?_getD, g5])
            have hvl : (a.eval x).cells.toList.length = i.size := by simpa using hlen
            refine ⟨cspl xs (q * sz + k) (a.eval x).cells.toList, fun y hy => ?_, hf.pos, ?_, fun y hy => ?_, fun r j hr' hj => ?_⟩
            · rcases List.mem_or_eq_of_mem_set hy with hy | rfl
              · exact hf.z y hy
              · rw [splice_length (by omega)]; exact hel
            · rw [List.length_set]
              refine .inr ⟨g, cap, hb, h6, by rw [cspl_length (by omega)]; exact hxs, .inr ⟨g, cap, _, hb, Nat.zero_le _, setRow_heap w g _ _ e _ h10, h11, h12, ?_, ?_⟩⟩
              · simp only [List.size_toArray]; rw [cspl_length (by simp; omega)]; simpa using h13
              · have hcs : cur.toList.length = cap * sz := by simpa using h13
                rw [← h14]
                exact take_cspl (by omega) (by omega)
            · simp only [cspl, List.append_assoc, List.mem_append] at hy
              rcases hy with hy | hy | hy
              · exact hf.one y (List.mem_of_mem_take hy)
              · exact hv.2.1 y hy
              · exact hf.one y (List.mem_of_mem_drop hy)
            · rw [List.length_set] at hr'
              rw [cv_cspl (by omega)]
              by_cases hrq : r = q
              · subst hrq
                have eg : (es.set r (splice (es.getD r []) k ax.cells)).getD r [] = splice (es.getD r []) k ax.cells := by simp [List.getD_eq_getElem?_getD, g5]
                rw [eg, av_splice (by omega)]
                by_cases hjk : k ≤ j ∧ j < k + ax.cells.length
                · rw [if_pos hjk, if_pos (by omega), show r * sz + j - (r * sz + k) = j - k by omega]
                  have hjl : j - k < ax.cells.length := by omega
                  exact ((hv.2.2 _ hjl).flat (g3 _ (by simp [av, List.getD_eq_getElem?_getD, hjl]))).mono hst
                · rw [if_neg hjk, if_neg (by omega)]
                  exact (hf.cell r j g5 hj).mono hst
              · have eg : (es.set q (splice (es.getD q []) k ax.cells)).getD r [] = es.getD r [] := by simp [List.getD_eq_getElem?_getD, show ¬ q = r from fun e => hrq e.symm]
                rw [eg, if_neg]
                · exact (hf.cell r j hr' hj).mono hst
                · rcases Nat.lt_or_gt_of_ne hrq with h' | h'
                  · have : r * sz + sz ≤ q * sz := by rw [← Nat.succ_mul]; exact Nat.mul_le_mul_right _ h'
                    omega
                  · have : q * sz + sz ≤ r * sz := by rw [← Nat.succ_mul]; exact Nat.mul_le_mul_right _ h'
                    omega
  | _ => exact side.elim

theorem does_storeX (s : Sim E fr S β a w) (hd : ∀ d, o.dst = some d → d < a.tmps.size) {t : TypeId} {i : TypeInfo} {p x : Operand} {p' x' : AOpd} (ho : o.op = .store t p x) (hp : compOpd p = some p') (hx : compOpd x = some x')
    (hi : P.info? t = some i) (side : (effStoreX S.h i.size (evo S p') (evo S x')).side) : Does P E fr S β a w nm o (effStoreX S.h i.size (evo S p') (evo S x')) := by
  have h1 := sim_evo s hp
  have h2 := sim_evo s hx
  have key : ∀ g off (cur : Array Value) ty, a.eval p = .pointer (some ⟨g, off, none⟩) → w.heap[g]? = some (.cells cur ty (0, 0)) → (a.eval x).cells.size = i.size → off + i.size ≤ cur.size → (∀ u ∈ (a.eval x).cells.toList, u.oneCell' = true) →
      (execOp a.eval o).run P w = .ok .skip (w.setRow g (cspl cur.toList off (a.eval x).cells.toList).toArray) := by
    intro g off cur ty e1 hg hn hfit hu
    have hr := run_storeAt (P := P) hi g off (a.eval x) cur hg hn hfit hu
    simp only [execOp, ho, e1, Sem.run_bind, hr, Result.andThen_ok, Sem.run_pure]
  generalize evo S p' = ap at *
  generalize evo S x' = ax at *
  have grown : ∀ g cs, w.grownBy (w.setRow g cs) (some g) := fun g cs => ⟨rfl, rfl, rfl, by simp, fun k _ hk => setRow_other w g k _ (fun e => hk (by simp [e]))⟩
  cases ap with
  | ep b sz q k =>
    obtain ⟨g, n, cap, hb, e1⟩ := h1.ep_inv
    cases hB : S.h b with
    | none => simp [effStoreX, storeX, hB, Eff.fail] at side
    | some blk => cases blk with
      | box cs => simp [effStoreX, storeX, hB, Eff.fail] at side
      | iter q p => simp [effStoreX, storeX, hB, Eff.fail] at side
      | rowX _ _ _ => simp [effStoreX, storeX, hB, Eff.fail] at side
      | map _ _ => simp [effStoreX, storeX, hB, Eff.fail] at side
      | rowS _ _ _ _ => simp [effStoreX, storeX, hB, Eff.fail] at side
      | row es sz' e =>
        have he : effStoreX S.h i.size (.ep b sz q k) ax = ⟨ax.okCells ∧ ax.cells.length = i.size ∧ sz = sz' ∧ q < es.length ∧ k + i.size ≤ sz, .tup [], [(b, some (.rowX (es.set q (splice (es.getD q []) k ax.cells)) sz e))], [b]⟩ := by simp [effStoreX, storeX, hB]
        rw [he] at side ⊢
        obtain ⟨g1, g2, rfl, g5, g6⟩ := side
        have hv := h2.fit g1
        have hlen : (a.eval x).cells.size = i.size := by have := hv.1; simp at this; omega
        obtain ⟨xs, hf⟩ := s.bl b _ hB
        rw [hb] at hf
        rcases hf.row with ⟨ad', h5, h6, _⟩ | ⟨gg, cap', h5, h6, h7⟩
        · omega
        · simp at h5
          obtain ⟨rfl, rfl, rfl⟩ := h5
          rcases h7.2 with ⟨h8, _⟩ | ⟨g', cap', cur, h8, h9, h10, h11, h12, h13, h14⟩
          · cases h8
          · simp at h8
            obtain ⟨rfl, rfl⟩ := h8
            have hq : q * sz + sz ≤ es.length * sz := by rw [← Nat.succ_mul]; exact Nat.mul_le_mul_right _ g5
            have hcap : es.length * sz ≤ cap * sz := Nat.mul_le_mul_right _ h11
            have hr := key g (q * sz + k) cur e e1 h10 hlen (by omega) hv.2.1
            refine does_write (g := g) (new := .rowX (es.set q (splice (es.getD q []) k ax.cells)) sz e) s hd hB (by rw [hb]; simp [blkOf]; omega) hr (grown _ _) (fun st hst => ?_) rfl rfl
            have hxs : xs.length = es.length * sz := h7.1
            have hel : (es.getD q []).length = sz := hf.z _ (by simp [List.getD_eq_getElem?_getD, g5])
            have hvl : (a.eval x).cells.toList.length = i.size := by simpa using hlen
            refine ⟨cspl xs (q * sz + k) (a.eval x).cells.toList, fun y hy => ?_, hf.pos, ?_, fun y hy => ?_, fun r j hr' hj => ?_⟩
            · rcases List.mem_or_eq_of_mem_set hy with hy | rfl
              · exact hf.z y hy
              · rw [splice_length (by omega)]; exact hel
            · rw [List.length_set]
              refine .inr ⟨g, cap, hb, h6, by rw [cspl_length (by omega)]; exact hxs, .inr ⟨g, cap, _, hb, Nat.zero_le _, setRow_heap w g _ _ e _ h10, h11, h12, ?_, ?_⟩⟩
              · simp only [List.size_toArray]; rw [cspl_length (by simp; omega)]; simpa using h13
              · have hcs : cur.toList.length = cap * sz := by simpa using h13
                rw [← h14]
                exact take_cspl (by omega) (by omega)
            · simp only [cspl, List.append_assoc, List.mem_append] at hy
              rcases hy with hy | hy | hy
              · exact hf.one y (List.mem_of_mem_take hy)
              · exact hv.2.1 y hy
              · exact hf.one y (List.mem_of_mem_drop hy)
            · rw [List.length_set] at hr'
              rw [cv_cspl (by omega)]
              by_cases hrq : r = q
              · subst hrq
                have eg : (es.set r (splice (es.getD r []) k ax.cells)).getD r [] = splice (es.getD r []) k ax.cells := by simp [List.getD_eq_getElem?_getD, g5]
                rw [eg, av_splice (by omega)]
                by_cases hjk : k ≤ j ∧ j < k + ax.cells.length
                · rw [if_pos hjk, if_pos (by omega), show r * sz + j - (r * sz + k) = j - k by omega]
                  have hjl : j - k < ax.cells.length := by omega
                  exact (hv.2.2 _ hjl).mono (Grows.refl _) hst
                · rw [if_neg hjk, if_neg (by omega)]
                  exact .pure ((hf.cell r j g5 hj).mono hst)
              · have eg : (es.set q (splice (es.getD q []) k ax.cells)).getD r [] = es.getD r [] := by simp [List.getD_eq_getElem?_getD, show ¬ q = r from fun e => hrq e.symm]
                rw [eg, if_neg]
                · exact .pure ((hf.cell r j hr' hj).mono hst)
                · rcases Nat.lt_or_gt_of_ne hrq with h' | h'
                  · have : r * sz + sz ≤ q * sz := by rw [← Nat.succ_mul]; exact Nat.mul_le_mul_right _ h'
                    omega
                  · have : q * sz + sz ≤ r * sz := by rw [← Nat.succ_mul]; exact Nat.mul_le_mul_right _ h'
                    omega
  | _ => exact side.elim

theorem zero_len (zs : Array Value) (n : Nat) : (Builtin.zeroCells zs n).toList.length = n * zs.size := by simp [Builtin.zeroCells]
theorem zero_mem (zs : Array Value) (n : Nat) (h0 : 0 < zs.size) (v : Value) (hv : v ∈ (Builtin.zeroCells zs n).toList) : v ∈ zs.toList := by
  simp only [Builtin.zeroCells, Array.toList_map, List.mem_map, Array.mem_toList_iff] at hv
  obtain ⟨i, _, rfl⟩ := hv
  rw [getElem!_pos zs _ (Nat.mod_lt _ h0)]
  simp
theorem zero_cell (zs : Array Value) (n r j : Nat) (hr : r < n) (hj : j < zs.size) : cv (Builtin.zeroCells zs n).toList (r * zs.size + j) = cv zs.toList j := by
  have hlt : r * zs.size + j < n * zs.size := by
    have : (r + 1) * zs.size ≤ n * zs.size := Nat.mul_le_mul_right _ hr
    rw [Nat.succ_mul] at this
    omega
  have hm : (r * zs.size + j) % zs.size = j := by rw [Nat.mul_comm, Nat.mul_add_mod, Nat.mod_eq_of_lt hj]
  simp only [cv, List.getD_eq_getElem?_getD, Builtin.zeroCells]
  rw [List.getElem?_eq_getElem (by simpa using hlt), List.getElem?_eq_getElem (by simpa using hj)]
  simp only [Option.getD_some, Array.getElem_toList, Array.getElem_map, Array.getElem_range]
  rw [getElem!_pos zs _ (by rw [hm]; exact hj)]
  congr 1
theorem does_clear (s : Sim E fr S β a w) (hd : ∀ d, o.dst = some d → d < a.tmps.size) {x : Operand} {x' : AOpd} {t e : TypeId} {i : TypeInfo} {z : Value} (ho : o.op = .call { callee := .builtin .clear, args := #[x], argTypes := #[t] }) (hx : compOpd x = some x')
    (ht : P.underlying t = some (.slice e)) (hi : P.info? e = some i) (hz : i.zero = some z) (h0 : 0 < i.size) (hzs : z.cells.size = i.size) (h1z : z.cells.all (·.oneCell') = true) (side : (effClear S.h i.size z.cells.toList (evo S x')).side) :
    Does P E fr S β a w nm o (effClear S.h i.size z.cells.toList (evo S x')) := by
  have h1 := sim_evo s hx
  generalize evo S x' = ax at *
  cases ax with
  | suf b sz k =>
    simp only [effClear] at side ⊢
    by_cases hsz : sz = i.size
    case neg => rw [if_neg hsz] at side; exact side.elim
    rw [if_pos hsz] at side ⊢
    subst hsz
    obtain ⟨ad, n, cap, e1, hkn, e2⟩ := h1.suf_inv
    cases hB : S.h b with
    | none => rw [hB] at side; exact side.elim
    | some blk =>
      rw [hB] at side
      cases blk with
      | box cs => exact side.elim
      | iter q p => exact side.elim
      | rowX _ _ _ => exact side.elim
      | map _ _ => exact side.elim
      | rowS _ _ _ _ => exact side.elim
      | row es sz' ty =>
        obtain ⟨rfl, g1, g2⟩ : sz' = i.size ∧ k < es.length ∧ z.cells.toList.length = i.size := side
        obtain ⟨xs, hf⟩ := s.bl b _ hB
        rw [e1] at hf
        obtain ⟨hn, hnc, hcm, hpos⟩ := row_cap hf
        obtain ⟨g, cur, rfl, hg, hcur, htk⟩ := hpos (by omega)
        rw [if_neg (by omega)] at e2
        simp only [Option.map_some, Addr.add_lit, Nat.zero_add] at e2
        have hvz : ∀ w, (zeroValue e).run P w = .ok z w := fun w => by simp [zeroValue, typeInfo, hi, hz]
        have hall : ∀ u ∈ (Builtin.zeroCells z.cells (n - k)).toList, u.oneCell' = true := fun u hu => by
          have := zero_mem _ _ (by omega) u hu
          exact (Array.all_eq_true'.1 h1z) u (by simpa using this)
        have hzl := zero_len z.cells (n - k)
        have hmul : k * i.size + (n - k) * i.size = n * i.size := by rw [← Nat.add_mul]; congr 1; omega
        have hcapm : n * i.size ≤ cap * i.size := Nat.mul_le_mul_right _ hnc
        have hst := run_storeCells_at (P := P) g (k * i.size) ty (Builtin.zeroCells z.cells (n - k)).toList 0 cur w hg (by rw [hzl, hzs]; omega) hall
        have hrun : (execOp a.eval o).run P w = .ok (.value (.tuple #[])) (w.setRow g (cspl cur.toList (k * i.size) (Builtin.zeroCells z.cells (n - k)).toList).toArray) := by
          obtain ⟨m, hm⟩ : ∃ m, n - k = m + 1 := ⟨n - k - 1, by omega⟩
          rw [hm] at e2 hst ⊢
          simp only [Nat.add_zero] at hst
          simp [execOp, ho, e2, resolve, invoke, builtin, Builtin.clear_, run_underlying ht, hvz, hst, cspl]
        have grown : ∀ g cs, w.grownBy (w.setRow g cs) (some g) := fun g cs => ⟨rfl, rfl, rfl, by simp, fun k _ hk => setRow_other w g k _ (fun e => hk (by simp [e]))⟩
        have hxs : xs.length = es.length * i.size := hf.row.len
        have hesl : es.length = n := hn.symm
        refine does_writeV (g := g) (new := .row (es.take k ++ List.replicate (es.length - k) (z.cells.toList.map AV.v)) i.size ty) s hd hB (by rw [e1]; simp [blkOf]; omega) hrun (grown _ _) (fun st hst => ?_) (fun st => .pure (.tup [] [] rfl (fun j hj => by simp at hj))) rfl
        have hnl : (es.take k ++ List.replicate (es.length - k) (z.cells.toList.map AV.v)).length = es.length := by simp; omega
        refine ⟨cspl xs (k * i.size) (Builtin.zeroCells z.cells (n - k)).toList, fun y hy => ?_, hf.pos, ?_, fun y hy => ?_, fun r j hr' hj => ?_⟩
        · rcases List.mem_append.1 hy with hy | hy
          · exact hf.z y (List.mem_of_mem_take hy)
          · rw [(List.mem_replicate.1 hy).2]; simp; omega
        · rw [hnl, e1]
          refine .inr ⟨g, cap, by rw [hesl], by omega, by rw [cspl_length (by rw [hzl, hzs, hxs, hesl]; omega)]; exact hxs, .inr ⟨g, cap, _, by rw [hesl], Nat.zero_le _, setRow_heap w g _ _ ty _ hg, by omega, hcm, ?_, ?_⟩⟩
          · simp only [List.size_toArray]; rw [cspl_length (by rw [hzl, hzs]; simp; omega)]; simpa using hcur
          · rw [← htk]
            exact take_cspl (by rw [hzl, hzs, hesl]; omega) (by simp; rw [hcur, hesl]; exact hcapm)
        · simp only [cspl, List.append_assoc, List.mem_append] at hy
          rcases hy with hy | hy | hy
          · exact hf.one y (List.mem_of_mem_take hy)
          · exact hall y hy
          · exact hf.one y (List.mem_of_mem_drop hy)
        · rw [hnl] at hr'
          rw [cv_cspl (by rw [hzl, hzs, hxs, hesl]; omega), hzl, hzs]
          by_cases hrk : r < k
          · have : r * i.size + i.size ≤ k * i.size := by rw [← Nat.succ_mul]; exact Nat.mul_le_mul_right _ hrk
            rw [if_neg (by omega)]
            have eg : (es.take k ++ List.replicate (es.length - k) (z.cells.toList.map AV.v)).getD r [] = es.getD r [] := by
              simp only [List.getD_eq_getElem?_getD]
              rw [List.getElem?_append_left (by simp; omega), List.getElem?_take_of_lt hrk]
            rw [eg]
            exact (hf.cell r j hr' hj).mono hst
          · have e3 : r * i.size = k * i.size + (r - k) * i.size := by rw [← Nat.add_mul]; congr 1; omega
            have e4 : (r - k) * i.size + i.size ≤ (n - k) * i.size := by rw [← Nat.succ_mul]; exact Nat.mul_le_mul_right _ (by omega)
            rw [if_pos (by omega)]
            have eg : (es.take k ++ List.replicate (es.length - k) (z.cells.toList.map AV.v)).getD r [] = z.cells.toList.map AV.v := by
              simp only [List.getD_eq_getElem?_getD]
              rw [List.getElem?_append_right (by simp; omega), List.getElem?_replicate, if_pos (by simp; omega)]
              rfl
            rw [eg, show r * i.size + j - k * i.size = (r - k) * z.cells.size + j by rw [hzs]; omega, zero_cell z.cells (n - k) (r - k) j (by omega) (by omega)]
            have e5 : av (z.cells.toList.map AV.v) j = .v (cv z.cells.toList j) := by
              have : j < z.cells.toList.length := by omega
              simp [av, cv, List.getD_eq_getElem?_getD, List.getElem?_eq_getElem this]
            rw [e5]
            exact .v _
  | _ => exact side.elim

end does
end Go.Ab
namespace Go.Ab
open Go.RowKit

section
variable {P : Program} {w : World}

theorem rowRep_grown (e : TypeId) (sz n m old : Nat) (z : Value) (xs news : List Value) (hzs : z.cells.size = sz) (hxs : xs.length = n * sz) (hl : news.length = m * sz) (h63 : n + m ≤ maxLen) :
    RowRep (w.drew.alloc (.cells (xs.toArray ++ news.toArray ++ Builtin.zeroCells z.cells (grownCap w (n + m) old e - (n + m))) e)) e sz (.slice (some ⟨w.heap.size, 0, none⟩) (n + m) (grownCap w (n + m) old e)) (n + m) (xs ++ news) ∧
    w.grownBy (w.drew.alloc (.cells (xs.toArray ++ news.toArray ++ Builtin.zeroCells z.cells (grownCap w (n + m) old e - (n + m))) e)) none := by
  have hge := grownCap_ge w (n + m) old e
  have hcm : grownCap w (n + m) old e ≤ maxLen := grownCap_le_maxLen w (n + m) old e h63
  have hlen : (xs ++ news).length = (n + m) * sz := by rw [List.length_append, hxs, hl, Nat.add_mul]
  refine ⟨RowRep.of_owns (base := 0) ⟨hlen, .inr ⟨w.heap.size, _, _, rfl, Nat.zero_le _, heap_alloc_new w.drew _, hge, hcm, ?_, ?_⟩⟩, ⟨rfl, rfl, rfl, by simp, fun k hk _ => @heap_alloc_old w.drew _ k hk⟩⟩
  · simp only [Array.size_append, List.size_toArray, size_zeroCells, hzs, hxs, hl, ← Nat.add_mul]
    congr 1
    omega
  · simp only [Array.toList_append, List.append_assoc]
    rw [← List.append_assoc, ← hlen]
    exact List.take_left

theorem run_append_rep {t ty e : TypeId} {i : TypeInfo} {z : Value} (ht : P.underlying t = some (.slice e)) (hi : P.info? e = some i) (hz : i.zero = some z) (hzs : z.cells.size = i.size)
    {v : Value} {n : Nat} {xs : List Value} (hr : RowRep w e i.size v n xs) {ad : Option Addr} {m c : Nat} {news : List Value} (hl : news.length = m * i.size)
    (hsrc : 0 < m → ∃ a, ad = some a ∧ ∀ j u, news[j]? = some u → w.cell? (a.add j) = some u) (h1 : ∀ u ∈ news, u.oneCell' = true) (hbytes : (n + m) * i.bytes ≤ 140737488355328) (h63 : n + m ≤ maxLen) :
    ∃ v' w', (Builtin.append_ #[t, t] ty #[v, .slice ad m c]).run P w = .ok v' w' ∧ RowRep w' e i.size v' (n + m) (xs ++ news) ∧ w.grownBy w' (blkOf v) ∧ (∀ g, blkOf v' = some g → blkOf v = some g ∨ w.heap.size ≤ g) ∧ ∃ ad n c, v' = .slice ad n c := by
  by_cases hm : m = 0
  · subst hm
    have hn : news = [] := List.eq_nil_of_length_eq_zero (by simpa using hl)
    subst hn
    have hv : ∃ base cap, v = .slice base n cap ∧ n ≤ cap := by
      rcases hr with ⟨a, rfl, rfl, _⟩ | ⟨g, cap, rfl, hc, hr⟩
      · exact ⟨a, 0, rfl, Nat.le_refl _⟩
      · refine ⟨_, cap, rfl, ?_⟩
        rcases hr.2 with ⟨h', _⟩ | ⟨g', cap', cur, h', _, _, h2, _⟩
        · cases h'
        · simp at h'; omega
    obtain ⟨base, cap, rfl, hnc⟩ := hv
    refine ⟨.slice base n cap, w, ?_, by simpa using hr, ⟨rfl, rfl, rfl, Nat.le_refl _, fun _ _ _ => rfl⟩, fun g hg => .inl hg, _, _, _, rfl⟩
    cases ad <;> cases base <;> simp [Builtin.append_, run_underlying ht, sizeOf, typeInfo, hi, Builtin.lenOf, Builtin.firstCells, loadCells, loadCellsFrom, hnc, storeCells]
  · obtain ⟨a, rfl, hnews⟩ := hsrc (by omega)
    have h63' : ((n + m : Nat) : Int) ≤ 9223372036854775807 := by simp only [maxLen] at h63; omega
    rcases hr with ⟨a0, rfl, rfl, rfl⟩ | ⟨g, cap, rfl, hc, hr⟩
    · have hgr := rowRep_grown (w := w) e i.size 0 m 0 z [] news hzs (by simp) hl (by simpa using h63)
      have hb' : m * i.bytes ≤ 140737488355328 := by simpa using hbytes
      have hnew : ∀ g, blkOf (.slice (some ⟨w.heap.size, 0, none⟩) (0 + m) (grownCap w (0 + m) 0 e)) = some g → w.heap.size ≤ g := by
        intro g hg
        simp only [blkOf] at hg
        split at hg
        · cases hg
        · simp at hg; omega
      cases a0 with
      | none =>
        have hrun := run_append_nil (P := P) w t ty e i z ht hi hz a m c news hl hnews (by omega) (by simp only [maxLen] at h63; omega) (by omega)
        simp only [Nat.zero_add, List.nil_append] at hgr hnew ⊢
        exact ⟨_, _, hrun, by simpa using hgr.1, by simpa [blkOf] using hgr.2, fun g hg => .inr (hnew g hg), _, _, _, rfl⟩
      | some b =>
        have hrun := run_append_grow (P := P) w t ty e i z ht hi hz b 0 0 [] (by simp) (fun j u hu => by simp at hu) a m c news hl hnews (by omega) h63' (growslice_fits (by omega) hbytes)
        simp only [Nat.zero_add, List.nil_append] at hgr hnew hrun ⊢
        exact ⟨_, _, hrun, by simpa using hgr.1, by simpa [blkOf] using hgr.2, fun g hg => .inr (hnew g hg), _, _, _, rfl⟩
    · rcases hr.2 with ⟨h', _⟩ | ⟨g', cap', cur, h', hbg, hg, hnc, hcm, hcs, htake⟩
      · cases h'
      · simp at h'
        obtain ⟨rfl, rfl⟩ := h'
        have hblk : blkOf (.slice (some ⟨g, 0, none⟩) n cap) = some g := by simp [blkOf]; omega
        by_cases hroom : n + m ≤ cap
        · have hfit : n * i.size + news.length ≤ cur.size := by rw [hl, hcs, ← Nat.add_mul]; exact Nat.mul_le_mul_right _ hroom
          have hrun := run_append_room (P := P) w t ty e i ht hi g n cap cur hg a m c news hl hnews h1 hroom hfit
          refine ⟨_, _, hrun, ?_, ?_, fun k hk => .inl ?_, _, _, _, rfl⟩
          · refine .inr ⟨g, cap, rfl, hc, by rw [List.length_append, hr.1, hl, Nat.add_mul], .inr ⟨g, cap, _, rfl, Nat.zero_le _, setRow_heap w g cur _ e _ hg, hroom, hcm, ?_, ?_⟩⟩
            · simp only [List.size_toArray, List.length_append, List.length_take, List.length_drop, Array.length_toList]
              omega
            · have hlen : (xs ++ news).length = (n + m) * i.size := by rw [List.length_append, hr.1, hl, Nat.add_mul]
              rw [htake, ← hlen]
              exact List.take_left
          · rw [hblk]
            exact ⟨rfl, rfl, rfl, by simp, fun k _ hk => setRow_other w g k _ (fun e => hk (by simp [e]))⟩
          · simp only [blkOf] at hk ⊢
            exact hk
        · have hgr := rowRep_grown (w := w) e i.size n m cap z xs news hzs hr.1 hl h63
          have holds : ∀ j u, xs[j]? = some u → w.cell? ((⟨g, 0, none⟩ : Addr).add j) = some u := hr.cells (g := g) rfl
          have hrun := run_append_grow (P := P) w t ty e i z ht hi hz ⟨g, 0, none⟩ n cap xs hr.1 holds a m c news hl hnews (by omega) h63' (growslice_fits (by omega) hbytes)
          refine ⟨_, _, hrun, hgr.1, ?_, fun k hk => .inr ?_, _, _, _, rfl⟩
          · exact ⟨hgr.2.os, hgr.2.tape, hgr.2.output, hgr.2.size, fun k h _ => hgr.2.block k h (by simp)⟩
          · simp only [blkOf] at hk
            split at hk
            · cases hk
            · simp at hk; omega

theorem run_append_keep {t ty e : TypeId} {i : TypeInfo} {z : Value} (ht : P.underlying t = some (.slice e)) (hi : P.info? e = some i) (hz : i.zero = some z) (hzs : z.cells.size = i.size)
    {v : Value} {n : Nat} {xs : List Value} (hr : RowRep w e i.size v n xs) {ad : Option Addr} {m c : Nat} {news : List Value} (hm : 0 < m) (hl : news.length = m * i.size)
    (hsrc : 0 < m → ∃ a, ad = some a ∧ ∀ j u, news[j]? = some u → w.cell? (a.add j) = some u) (h1 : ∀ u ∈ news, u.oneCell' = true) (hbytes : (n + m) * i.bytes ≤ 140737488355328) (h63 : n + m ≤ maxLen) :
    (∃ g cap w', v = .slice (some ⟨g, 0, none⟩) n cap ∧ n + m ≤ cap ∧ (Builtin.append_ #[t, t] ty #[v, .slice ad m c]).run P w = .ok (.slice (some ⟨g, 0, none⟩) (n + m) cap) w' ∧
      RowRep w' e i.size (.slice (some ⟨g, 0, none⟩) (n + m) cap) (n + m) (xs ++ news) ∧ RowRep w' e i.size v n xs ∧ w.grownBy w' (some g)) ∨
    (∃ v' w', (Builtin.append_ #[t, t] ty #[v, .slice ad m c]).run P w = .ok v' w' ∧ RowRep w' e i.size v' (n + m) (xs ++ news) ∧ w.grownBy w' none ∧ (∀ g, blkOf v' = some g → w.heap.size ≤ g) ∧
      ∀ g n' cap, v = .slice (some ⟨g, 0, none⟩) n' cap → ¬ n + m ≤ cap) := by
  obtain ⟨a, rfl, hnews⟩ := hsrc hm
  have h63' : ((n + m : Nat) : Int) ≤ 9223372036854775807 := by simp only [maxLen] at h63; omega
  rcases hr with ⟨a0, rfl, rfl, rfl⟩ | ⟨g, cap, rfl, hc, hr⟩
  · refine .inr ?_
    have hgr := rowRep_grown (w := w) e i.size 0 m 0 z [] news hzs (by simp) hl (by simpa using h63)
    have hb' : m * i.bytes ≤ 140737488355328 := by simpa using hbytes
    have hnew : ∀ g, blkOf (.slice (some ⟨w.heap.size, 0, none⟩) (0 + m) (grownCap w (0 + m) 0 e)) = some g → w.heap.size ≤ g := by
      intro g hg
      simp only [blkOf] at hg
      split at hg
      · cases hg
      · simp at hg; omega
    have hno : ∀ g n' cap, Value.slice a0 0 0 = .slice (some ⟨g, 0, none⟩) n' cap → ¬ 0 + m ≤ cap := fun g n' cap e => by
      simp at e; omega
    cases a0 with
    | none =>
      have hrun := run_append_nil (P := P) w t ty e i z ht hi hz a m c news hl hnews (by omega) (by simp only [maxLen] at h63; omega) (by omega)
      simp only [Nat.zero_add, List.nil_append] at hgr hnew hno ⊢
      exact ⟨_, _, hrun, by simpa using hgr.1, by simpa [blkOf] using hgr.2, hnew, hno⟩
    | some b =>
      have hrun := run_append_grow (P := P) w t ty e i z ht hi hz b 0 0 [] (by simp) (fun j u hu => by simp at hu) a m c news hl hnews (by omega) h63' (growslice_fits (by omega) hbytes)
      simp only [Nat.zero_add, List.nil_append] at hgr hnew hrun hno ⊢
      exact ⟨_, _, hrun, by simpa using hgr.1, by simpa [blkOf] using hgr.2, hnew, hno⟩
  · rcases hr.2 with ⟨h', _⟩ | ⟨g', cap', cur, h', hbg, hg, hnc, hcm, hcs, htake⟩
    · cases h'
    · simp at h'
      obtain ⟨rfl, rfl⟩ := h'
      have hblk : blkOf (.slice (some ⟨g, 0, none⟩) n cap) = some g := by simp [blkOf]; omega
      by_cases hroom : n + m ≤ cap
      · refine .inl ?_
        have hfit : n * i.size + news.length ≤ cur.size := by rw [hl, hcs, ← Nat.add_mul]; exact Nat.mul_le_mul_right _ hroom
        have hrun := run_append_room (P := P) w t ty e i ht hi g n cap cur hg a m c news hl hnews h1 hroom hfit
        have hsize : ∀ q : List Value, q.length = cap * i.size → q.toArray.size = cap * i.size := fun q hq => by simpa using hq
        refine ⟨g, cap, _, rfl, hroom, hrun, ?_, ?_, ?_⟩
        · refine .inr ⟨g, cap, rfl, hc, by rw [List.length_append, hr.1, hl, Nat.add_mul], .inr ⟨g, cap, _, rfl, Nat.zero_le _, setRow_heap w g cur _ e _ hg, hroom, hcm, ?_, ?_⟩⟩
          · simp only [List.size_toArray, List.length_append, List.length_take, List.length_drop, Array.length_toList]
            omega
          · have hlen : (xs ++ news).length = (n + m) * i.size := by rw [List.length_append, hr.1, hl, Nat.add_mul]
            rw [htake, ← hlen]
            exact List.take_left
        · refine .inr ⟨g, cap, rfl, hc, hr.1, .inr ⟨g, cap, _, rfl, Nat.zero_le _, setRow_heap w g cur _ e _ hg, hnc, hcm, ?_, ?_⟩⟩
          · simp only [List.size_toArray, List.length_append, List.length_take, List.length_drop, Array.length_toList]
            omega
          · rw [htake, ← hr.1]
            simp only [List.append_assoc]
            exact List.take_left
        · exact ⟨rfl, rfl, rfl, by simp, fun k _ hk => setRow_other w g k _ (fun e => hk (by simp [e]))⟩
      · refine .inr ?_
        have hgr := rowRep_grown (w := w) e i.size n m cap z xs news hzs hr.1 hl h63
        have holds : ∀ j u, xs[j]? = some u → w.cell? ((⟨g, 0, none⟩ : Addr).add j) = some u := hr.cells (g := g) rfl
        have hrun := run_append_grow (P := P) w t ty e i z ht hi hz ⟨g, 0, none⟩ n cap xs hr.1 holds a m c news hl hnews (by omega) h63' (growslice_fits (by omega) hbytes)
        refine ⟨_, _, hrun, hgr.1, hgr.2, fun k hk => ?_, fun g2 n2 cap2 e2 => ?_⟩
        · simp only [blkOf] at hk
          split at hk
          · cases hk
          · simp at hk; omega
        · simp at e2
          omega
end

section does
variable {P : Program} {E : Entry} {fr : Nat → Prop} {S : AState} {β : Nat → Value} {a : Act} {w : World} {nm : Nat} {o : Oper}

/-- What a slice value shows, in memory. -/
theorem elems_rep (s : Sim E fr S β a w) {sz : Nat} {x : AV} {c : Value} (h : SimV (E.st w β S.h) β w x c) {ys : List (List AV)} {rx : List Nat} (he : elemsOf S.h sz x = some (ys, rx)) (hz : ∀ y ∈ ys, y.length = sz) :
    ∃ ad m cap news, c = .slice ad m cap ∧ m = ys.length ∧ news.length = m * sz ∧ (0 < m → ∃ p, ad = some p ∧ ∀ j u, news[j]? = some u → w.cell? (p.add j) = some u) ∧ (∀ u ∈ news, u.oneCell' = true) ∧
      (∀ i j, i < ys.length → j < sz → PureV (E.st w β S.h) w (av (ys.getD i []) j) (cv news (i * sz + j))) ∧ ys.length ≤ maxLen := by
  cases x with
  | nils =>
    simp [elemsOf] at he
    obtain ⟨rfl, rfl⟩ := he
    obtain ⟨ad, rfl⟩ := h.nils_inv
    exact ⟨ad, 0, 0, [], rfl, rfl, by simp, fun h => by omega, by simp, fun i j hi => by simp at hi, Nat.zero_le _⟩
  | sl es =>
    simp [elemsOf] at he
    obtain ⟨rfl, rfl⟩ := he
    cases h.sl_inv with
    | slE ad cap hc => exact ⟨ad, 0, cap, [], rfl, rfl, by simp, fun h => by omega, by simp, fun i j hi => by simp at hi, Nat.zero_le _⟩
    | slC es' g off cap sz' f hc hm h0 hne hz' hst hcell hr =>
      have hsz : sz' = sz := by
        obtain ⟨y, hy⟩ := List.exists_mem_of_ne_nil _ hne
        rw [← hz' y hy, hz y hy]
      subst hsz
      have hget : ∀ q, q < es.length * sz' → ((List.range (es.length * sz')).map fun q => f (q / sz') (q % sz'))[q]? = some (f (q / sz') (q % sz')) := fun q hq => by simp [hq]
      have hdm : ∀ q, q < es.length * sz' → q / sz' < es.length ∧ q % sz' < sz' := fun q hq => ⟨(Nat.div_lt_iff_lt_mul h0).2 hq, Nat.mod_lt _ h0⟩
      refine ⟨_, es.length, cap, (List.range (es.length * sz')).map fun q => f (q / sz') (q % sz'), rfl, rfl, by simp, fun _ => ⟨_, rfl, fun j u hu => ?_⟩, fun u hu => ?_, fun i j hi hj => ?_, Nat.le_trans hc hm⟩
      · have hj : j < es.length * sz' := by have := (List.getElem?_eq_some_iff.1 hu).1; simpa using this
        rw [hget j hj] at hu
        simp at hu
        subst hu
        have := (hcell _ _ (hdm j hj).1 (hdm j hj).2).1
        rw [Nat.mul_comm, Nat.div_add_mod] at this
        rw [Addr.add_lit]
        exact this
      · simp only [List.mem_map, List.mem_range] at hu
        obtain ⟨q, hq, rfl⟩ := hu
        exact (hcell _ _ (hdm q hq).1 (hdm q hq).2).2
      · have hq := mul_in hi hj
        have e : cv ((List.range (es.length * sz')).map fun q => f (q / sz') (q % sz')) (i * sz' + j) = f i j := by
          simp only [cv, List.getD_eq_getElem?_getD, hget _ hq, Option.getD_some]
          have e1 : (i * sz' + j) / sz' = i := by rw [Nat.mul_comm, Nat.mul_add_div h0]; simp [Nat.div_eq_of_lt hj]
          have e2 : (i * sz' + j) % sz' = j := by rw [Nat.mul_comm, Nat.mul_add_mod]; exact Nat.mod_eq_of_lt hj
          rw [e1, e2]
        rw [e]
        exact hr i j hi hj
  | own b =>
    cases hB : S.h b with
    | none => simp [elemsOf, hB] at he
    | some blk => cases blk with
      | box cs => simp [elemsOf, hB] at he
      | iter q p => simp [elemsOf, hB] at he
      | rowX _ _ _ => simp [elemsOf, hB] at he
      | map _ _ => simp [elemsOf, hB] at he
      | rowS _ _ _ _ => simp [elemsOf, hB] at he
      | row es sz' e =>
        simp only [elemsOf, hB] at he
        split at he
        · rename_i hs
          subst hs
          simp at he
          obtain ⟨rfl, rfl⟩ := he
          obtain ⟨h2, ad, n, cap, h3⟩ := h.own_inv
          obtain ⟨xs, hf⟩ := s.bl b _ hB
          rw [← h2] at hf
          rcases hf.row with ⟨ad', h5, h6, h7⟩ | ⟨g, cap', h5, h6, h7⟩
          · have he : es = [] := List.eq_nil_of_length_eq_zero h6
            subst he
            exact ⟨ad', 0, 0, [], h5, rfl, by simp, fun h => by omega, by simp, fun i j hi => by simp at hi, Nat.zero_le _⟩
          · refine ⟨_, _, cap', xs, h5, rfl, hf.row.len, fun _ => ⟨_, rfl, fun j u hu => h7.cells (g := g) (by rw [h5]; rfl) j u hu⟩, hf.one, hf.cell, ?_⟩
            rcases h7.2 with ⟨h', _⟩ | ⟨g', cap'', cur, h', _, _, h8, h9, _⟩
            · rw [h5] at h'; cases h'
            · exact Nat.le_trans h8 h9
        · cases he
  | _ => simp [elemsOf] at he

theorem does_append (s : Sim E fr S β a w) (hf : fr nm) (hd : ∀ d, o.dst = some d → d < a.tmps.size) {t e : TypeId} {i : TypeInfo} {z : Value} {p x : Operand} {p' x' : AOpd} (ho : o.op = .call { callee := .builtin .append, args := #[p, x], argTypes := #[t, t] })
    (hp : compOpd p = some p') (hx : compOpd x = some x') (hu : P.underlying t = some (.slice e)) (hi : P.info? e = some i) (hz : i.zero = some z) (hzs : z.cells.size = i.size) (h0 : 0 < i.size) (hby : 1 ≤ i.bytes)
    (side : (effAppend S.h nm e i.size i.bytes (evo S p') (evo S x')).side) : Does P E fr S β a w nm o (effAppend S.h nm e i.size i.bytes (evo S p') (evo S x')) := by
  have h1 := sim_evo s hp
  have h2 := sim_evo s hx
  generalize evo S p' = ap at *
  generalize evo S x' = ax at *
  unfold effAppend at side ⊢
  cases hel : elemsOf S.h i.size ax with
  | none => simp [hel, Eff.fail] at side
  | some yr =>
    obtain ⟨ys, rx⟩ := yr
    simp only [hel] at side ⊢
    have key : ∀ v n xs, a.eval p = v → RowRep w e i.size v n xs → (n + ys.length) * i.bytes ≤ 140737488355328 → (∀ y ∈ ys, y.length = i.size) → ∃ v' w' news, (execOp a.eval o).run P w = .ok (.value v') w' ∧ RowRep w' e i.size v' (n + ys.length) (xs ++ news) ∧
        w.grownBy w' (blkOf v) ∧ (∀ g, blkOf v' = some g → blkOf v = some g ∨ w.heap.size ≤ g) ∧ (∃ ad n c, v' = .slice ad n c) ∧ RowCells (E.st w β S.h) w ys i.size news := by
      intro v n xs hv hr hb hzz
      obtain ⟨ad, m, cap, news, e1, rfl, e2, e3, e4, e5, e6⟩ := elems_rep s h2 hel hzz
      have h63 : n + ys.length ≤ maxLen := by
        have : n + ys.length ≤ (n + ys.length) * i.bytes := Nat.le_mul_of_pos_right _ hby
        unfold maxLen; omega
      obtain ⟨v', w', r1, r2, r3, r4, r5⟩ := run_append_rep (ty := o.type) (c := cap) hu hi hz hzs hr e2 e3 e4 hb h63
      refine ⟨v', w', news, ?_, r2, r3, r4, r5, ⟨e2, hzz, e4, e5⟩⟩
      simp only [execOp, ho, resolve, invoke, builtin, Sem.run_bind, Sem.run_pure, Result.andThen_ok, List.map_toArray, List.map_cons, List.map_nil, hv, e1, r1]
    cases ap with
    | nils =>
      simp only at side ⊢
      obtain ⟨ad, hv⟩ := h1.nils_inv
      obtain ⟨v', w', news, r1, r2, r3, r4, r5, r6⟩ := key _ 0 [] hv (.inl ⟨ad, rfl, rfl, rfl⟩) (by simpa using side.2) side.1
      have hb0 : blkOf (Value.slice ad 0 0) = none := by cases ad <;> simp [blkOf]
      rw [hb0] at r3
      simp only [Nat.zero_add, List.nil_append] at r2
      exact does_newRow s hf hd r1 r3 r2 (fun g hg => (r4 g hg).elim (fun h => by rw [hb0] at h; cases h) id) r5 r6.2.1 h0 r6.2.2.1 r6.2.2.2 rfl rfl
    | own b =>
      cases hB : S.h b with
      | none => simp [hB, Eff.fail] at side
      | some blk => cases blk with
        | box cs => simp [hB, Eff.fail] at side
        | iter q p => simp [hB, Eff.fail] at side
        | rowX _ _ _ => simp [hB, Eff.fail] at side
        | map _ _ => simp [hB, Eff.fail] at side
        | row es sz' e' =>
          simp only [hB] at side ⊢
          obtain ⟨rfl, ge, g3, g4, g5⟩ := side
          obtain rfl := ge.symm
          obtain ⟨hv, ad, n, cap, hc⟩ := h1.own_inv
          obtain ⟨xs, hfit⟩ := s.bl b _ hB
          obtain ⟨v', w', news, r1, r2, r3, r4, ⟨ad', n', c', r5⟩, r6⟩ := key _ es.length xs hv hfit.row g5 g4
          subst r5
          intro K Q hK
          unfold Oper.wp
          rw [r1, Oper.upon_value]
          refine hK (upd β nm (.slice ad' n' c')) _ _ ?_
          have hβu : β nm = undef := s.fresh nm hf
          have hbn : b ≠ nm := fun e => by subst e; exact (s.bl b _ hB).named hβu
          have hg : Grows β (upd β nm (.slice ad' n' c')) := fun k hk => by
            unfold upd; split
            · rename_i h; subst h; exact absurd hβu hk
            · rfl
          have hS : ∀ k, (S.app o.dst ⟨True, .own nm, [(b, none), (nm, some (.row (es ++ ys) i.size e))], rx⟩).h k = if k = nm then some (.row (es ++ ys) i.size e) else if k = b then none else S.h k := fun k => by
            simp [AState.app, updL, upd]
          have hh : ∀ {k blk}, (if k = nm then some (Blk.row (es ++ ys) i.size e) else if k = b then none else S.h k) = some blk → (k = nm ∧ blk = .row (es ++ ys) i.size e) ∨ (k ≠ nm ∧ k ≠ b ∧ S.h k = some blk) := by
            intro k blk hk
            by_cases h1 : k = nm
            · rw [if_pos h1] at hk; exact .inl ⟨h1, by simpa using hk.symm⟩
            · rw [if_neg h1] at hk
              by_cases h2 : k = b
              · rw [if_pos h2] at hk; cases hk
              · rw [if_neg h2] at hk; exact .inr ⟨h1, h2, hk⟩
          have hold : ∀ g, g < w.heap.size → blkOf (β b) ≠ some g → w'.heap[g]? = w.heap[g]? := fun g h1 h2 => r3.block g h1 (fun e => h2 e.symm)
          refine s.step (fun g => blkOf (β b) = some g) (fun g hgb => ⟨b, _, hB, hgb⟩) r3.os r3.tape r3.output r3.size (fun g h1 h2 => hold g h1 h2) hg (fun k hk => ?_) (fun k blk hk => ?_) ?_ (size_put _ _ _) (by rw [defers_put]; exact s.df) (fun hst => ?_)
          · unfold upd; rw [if_neg hk.2]; exact s.fresh k hk.1
          · have hk' : (if k = nm then some (Blk.row (es ++ ys) i.size e) else if k = b then none else S.h k) = some blk := by simpa [AState.app, updL, upd] using hk
            rcases hh hk' with ⟨rfl, rfl⟩ | ⟨h1, h2, h3⟩
            · refine .inr ⟨fun ok => ?_, fun g hgb => ?_⟩
              · simp only [upd, if_true]
                have hm : ∀ g, E.st w β S.h g → w'.heap[g]? = w.heap[g]? := fun g hgs => hold g hgs.1 (hgs.2.2 b _ hB)
                have hrc := ((RowCells.of_fits hfit).append r6).mono (st' := _) (w' := w') (fun g hgs => ⟨ok g hgs, hm g hgs⟩)
                exact ⟨xs ++ news, hrc.2.1, h0, by rw [List.length_append]; exact r2, hrc.2.2.1, hrc.2.2.2⟩
              · simp only [upd, if_true] at hgb
                rcases r4 g hgb with h | h
                · exact .inr h
                · exact .inl h
            · exact .inl ⟨h3, fun g hgk hgb => h2 (s.inj k b _ _ g h3 hB hgk hgb)⟩
          · intro k m b1 b2 g k1 k2 g1 g2
            have k1' : (if k = nm then some (Blk.row (es ++ ys) i.size e) else if k = b then none else S.h k) = some b1 := by simpa [AState.app, updL, upd] using k1
            have k2' : (if m = nm then some (Blk.row (es ++ ys) i.size e) else if m = b then none else S.h m) = some b2 := by simpa [AState.app, updL, upd] using k2
            rcases hh k1' with ⟨rfl, rfl⟩ | ⟨h1, h2, h3⟩ <;> rcases hh k2' with ⟨rfl, rfl⟩ | ⟨h4, h5, h6⟩
            · rfl
            · simp only [upd, if_true, if_neg h4] at g1 g2
              rcases r4 g g1 with h | h
              · exact absurd (s.inj m b _ _ g h6 hB g2 h) h5
              · have := (s.bl m _ h6).lt g2; omega
            · simp only [upd, if_true, if_neg h1] at g1 g2
              rcases r4 g g2 with h | h
              · exact absurd (s.inj k b _ _ g h3 hB g1 h) h2
              · have := (s.bl k _ h3).lt g1; omega
            · simp only [upd, if_neg h1, if_neg h4] at g1 g2
              exact s.inj k m _ _ g h3 h6 g1 g2
          · have h1 : ∀ q, SimV (E.st w' (upd β nm (.slice ad' n' c')) (S.app o.dst ⟨True, .own nm, [(b, none), (nm, some (.row (es ++ ys) i.size e))], b :: rx⟩).h) (upd β nm (.slice ad' n' c')) w' (S.t q) (a.tmps.getD q undef) := fun q => (s.tm q).mono hg hst
            exact sim_put h1 o.dst hd (.own nm (by simp [upd]))
        | rowS es zs sz' e' =>
          simp only [hB] at side ⊢
          obtain ⟨rfl, ge, g3, g4, g5⟩ := side
          obtain rfl := ge.symm
          obtain ⟨hv, ad, n, cap, hc⟩ := h1.own_inv
          obtain ⟨⟨xs, hfit⟩, _⟩ := s.bl b _ hB
          obtain ⟨v', w', news, r1, r2, r3, r4, ⟨ad', n', c', r5⟩, r6⟩ := key _ es.length xs hv hfit.row g5 g4
          subst r5
          intro K Q hK
          unfold Oper.wp
          rw [r1, Oper.upon_value]
          refine hK (upd β nm (.slice ad' n' c')) _ _ ?_
          have hβu : β nm = undef := s.fresh nm hf
          have hbn : b ≠ nm := fun e => by subst e; exact (s.bl b _ hB).named hβu
          have hg : Grows β (upd β nm (.slice ad' n' c')) := fun k hk => by
            unfold upd; split
            · rename_i h; subst h; exact absurd hβu hk
            · rfl
          have hS : ∀ k, (S.app o.dst ⟨True, .own nm, [(b, none), (nm, some (.row (es ++ ys) i.size e))], rx⟩).h k = if k = nm then some (.row (es ++ ys) i.size e) else if k = b then none else S.h k := fun k => by
            simp [AState.app, updL, upd]
          have hh : ∀ {k blk}, (if k = nm then some (Blk.row (es ++ ys) i.size e) else if k = b then none else S.h k) = some blk → (k = nm ∧ blk = .row (es ++ ys) i.size e) ∨ (k ≠ nm ∧ k ≠ b ∧ S.h k = some blk) := by
            intro k blk hk
            by_cases h1 : k = nm
            · rw [if_pos h1] at hk; exact .inl ⟨h1, by simpa using hk.symm⟩
            · rw [if_neg h1] at hk
              by_cases h2 : k = b
              · rw [if_pos h2] at hk; cases hk
              · rw [if_neg h2] at hk; exact .inr ⟨h1, h2, hk⟩
          have hold : ∀ g, g < w.heap.size → blkOf (β b) ≠ some g → w'.heap[g]? = w.heap[g]? := fun g h1 h2 => r3.block g h1 (fun e => h2 e.symm)
          refine s.step (fun g => blkOf (β b) = some g) (fun g hgb => ⟨b, _, hB, hgb⟩) r3.os r3.tape r3.output r3.size (fun g h1 h2 => hold g h1 h2) hg (fun k hk => ?_) (fun k blk hk => ?_) ?_ (size_put _ _ _) (by rw [defers_put]; exact s.df) (fun hst => ?_)
          · unfold upd; rw [if_neg hk.2]; exact s.fresh k hk.1
          · have hk' : (if k = nm then some (Blk.row (es ++ ys) i.size e) else if k = b then none else S.h k) = some blk := by simpa [AState.app, updL, upd] using hk
            rcases hh hk' with ⟨rfl, rfl⟩ | ⟨h1, h2, h3⟩
            · refine .inr ⟨fun ok => ?_, fun g hgb => ?_⟩
              · simp only [upd, if_true]
                have hm : ∀ g, E.st w β S.h g → w'.heap[g]? = w.heap[g]? := fun g hgs => hold g hgs.1 (hgs.2.2 b _ hB)
                have hrc := ((RowCells.of_fits hfit).append r6).mono (st' := _) (w' := w') (fun g hgs => ⟨ok g hgs, hm g hgs⟩)
                exact ⟨xs ++ news, hrc.2.1, h0, by rw [List.length_append]; exact r2, hrc.2.2.1, hrc.2.2.2⟩
              · simp only [upd, if_true] at hgb
                rcases r4 g hgb with h | h
                · exact .inr h
                · exact .inl h
            · exact .inl ⟨h3, fun g hgk hgb => h2 (s.inj k b _ _ g h3 hB hgk hgb)⟩
          · intro k m b1 b2 g k1 k2 g1 g2
            have k1' : (if k = nm then some (Blk.row (es ++ ys) i.size e) else if k = b then none else S.h k) = some b1 := by simpa [AState.app, updL, upd] using k1
            have k2' : (if m = nm then some (Blk.row (es ++ ys) i.size e) else if m = b then none else S.h m) = some b2 := by simpa [AState.app, updL, upd] using k2
            rcases hh k1' with ⟨rfl, rfl⟩ | ⟨h1, h2, h3⟩ <;> rcases hh k2' with ⟨rfl, rfl⟩ | ⟨h4, h5, h6⟩
            · rfl
            · simp only [upd, if_true, if_neg h4] at g1 g2
              rcases r4 g g1 with h | h
              · exact absurd (s.inj m b _ _ g h6 hB g2 h) h5
              · have := (s.bl m _ h6).lt g2; omega
            · simp only [upd, if_true, if_neg h1] at g1 g2
              rcases r4 g g2 with h | h
              · exact absurd (s.inj k b _ _ g h3 hB g1 h) h2
              · have := (s.bl k _ h3).lt g1; omega
            · simp only [upd, if_neg h1, if_neg h4] at g1 g2
              exact s.inj k m _ _ g h3 h6 g1 g2
          · have h1 : ∀ q, SimV (E.st w' (upd β nm (.slice ad' n' c')) (S.app o.dst ⟨True, .own nm, [(b, none), (nm, some (.row (es ++ ys) i.size e))], b :: rx⟩).h) (upd β nm (.slice ad' n' c')) w' (S.t q) (a.tmps.getD q undef) := fun q => (s.tm q).mono hg hst
            exact sim_put h1 o.dst hd (.own nm (by simp [upd]))
    | slf es sz' e' =>
      simp only at side ⊢
      obtain ⟨rfl, ge, g3, g4, g5⟩ := side
      obtain rfl := ge.symm
      obtain ⟨g, xs, hv, hg, hfit⟩ := h1.slf_inv
      rw [hv] at hfit
      obtain ⟨ad, m, cap, news, e1, rfl, e2, e3, e4, e5, e6⟩ := elems_rep s h2 hel g4
      obtain ⟨p, rfl, e3'⟩ := e3 (by omega)
      have h63 : es.length + ys.length ≤ maxLen := by
        have : es.length + ys.length ≤ (es.length + ys.length) * i.bytes := Nat.le_mul_of_pos_right _ hby
        unfold maxLen; omega
      have h63' : (es.length + ys.length : Nat) ≤ 9223372036854775807 := by simp only [maxLen] at h63; omega
      have holds : ∀ j u, xs[j]? = some u → w.cell? ((⟨g, 0, none⟩ : Addr).add j) = some u := by
        rcases hfit.row with ⟨a', h5, _, h7⟩ | ⟨g', cap', h5, _, h7⟩
        · intro j u hu; rw [h7] at hu; simp at hu
        · exact h7.cells (g := g) rfl
      have hrun0 := run_append_grow (P := P) w t o.type e i z hu hi hz ⟨g, 0, none⟩ es.length es.length xs hfit.row.len holds p ys.length cap news e2 e3' (by omega) (by omega) (growslice_fits (by omega) g5)
      have hgr := rowRep_grown (w := w) e i.size es.length ys.length es.length z xs news hzs hfit.row.len e2 h63
      have lift : ∀ {v' w'}, (Builtin.append_ #[t, t] o.type #[.slice (some ⟨g, 0, none⟩) es.length es.length, .slice (some p) ys.length cap]).run P w = .ok v' w' → (execOp a.eval o).run P w = .ok (.value v') w' := fun hr => by
        simp only [execOp, ho, resolve, invoke, builtin, Sem.run_bind, Sem.run_pure, Result.andThen_ok, List.map_toArray, List.map_cons, List.map_nil, hv, e1, hr]
      have hrc := (RowCells.of_fits hfit).append ⟨e2, g4, e4, e5⟩
      refine does_newRow (xs := xs ++ news) s hf hd (lift hrun0) hgr.2 (by rw [List.length_append]; exact hgr.1) (fun k hk => ?_) ⟨_, _, _, rfl⟩ hrc.2.1 h0 hrc.2.2.1 hrc.2.2.2 rfl rfl
      simp only [blkOf] at hk
      split at hk
      · cases hk
      · simp at hk; omega
    | _ => exact side.elim

theorem pure_of_row {st : Nat → Prop} {w : World} {es : List (List AV)} {sz : Nat} {e : TypeId} {c : Value} {xs : List Value} (h : RowFits st w es sz e c xs) (hc : ∀ g, blkOf c = some g → st g) : PureV st w (.sl es) c := by
  rcases h.row with ⟨a, rfl, h0, _⟩ | ⟨g, cap, rfl, h0, h1⟩
  · have : es = [] := List.eq_nil_of_length_eq_zero h0
    subst this
    exact .slE a 0 (Nat.zero_le _)
  · have hcap : es.length ≤ cap ∧ cap ≤ maxLen := by
      rcases h1.2 with ⟨h', _⟩ | ⟨g', cap', cur, h', _, _, h3, h4, _⟩
      · cases h'
      · simp at h'; omega
    by_cases hne : es = []
    · subst hne
      exact .slE _ cap hcap.2
    · refine .slC es g 0 cap sz (fun i j => cv xs (i * sz + j)) hcap.1 hcap.2 h.pos hne h.z (hc g (by simp [blkOf]; omega)) (fun i j hi hj => ?_) (fun i j hi hj => h.cell i j hi hj)
      have hlt : i * sz + j < xs.length := by rw [h.row.len]; exact mul_in hi hj
      rw [Nat.zero_add]
      exact ⟨h.row.cellAt rfl _ hlt, h.one _ (cv_mem hlt)⟩

theorem does_appendK (s : Sim E fr S β a w) (hd : ∀ d, o.dst = some d → d < a.tmps.size) {t e : TypeId} {i : TypeInfo} {z : Value} {p x : Operand} {p' x' : AOpd} (ho : o.op = .call { callee := .builtin .append, args := #[p, x], argTypes := #[t, t] })
    (hp : compOpd p = some p') (hx : compOpd x = some x') (hu : P.underlying t = some (.slice e)) (hi : P.info? e = some i) (hz : i.zero = some z) (hzs : z.cells.size = i.size) (h0 : 0 < i.size) (hby : 1 ≤ i.bytes)
    (side : (effAppendK S.h e i.size i.bytes (evo S p') (evo S x')).side) : Does P E fr S β a w nm o (effAppendK S.h e i.size i.bytes (evo S p') (evo S x')) := by
  have h1 := sim_evo s hp
  have h2 := sim_evo s hx
  generalize evo S p' = ap at *
  generalize evo S x' = ax at *
  unfold effAppendK at side ⊢
  cases hel : elemsOf S.h i.size ax with
  | none => simp [hel, Eff.fail] at side
  | some yr =>
    obtain ⟨ys, rx⟩ := yr
    simp only [hel] at side ⊢
    cases ap with
    | own b =>
      cases hB : S.h b with
      | none => simp [hB, Eff.fail] at side
      | some blk => cases blk with
        | row es sz' e' =>
          simp only [hB] at side ⊢
          obtain ⟨rfl, ge, g3, gy, g4, g5⟩ := side
          obtain rfl := ge.symm
          obtain ⟨hv, ad0, n0, cap0, hc⟩ := h1.own_inv
          obtain ⟨xs, hfit⟩ := s.bl b _ hB
          obtain ⟨ad, m, cap, news, e1, rfl, e2, e3, e4, e5, e6⟩ := elems_rep s h2 hel g4
          have hm : 0 < ys.length := List.length_pos_iff.2 gy
          have h63 : es.length + ys.length ≤ maxLen := by
            have : es.length + ys.length ≤ (es.length + ys.length) * i.bytes := Nat.le_mul_of_pos_right _ hby
            unfold maxLen; omega
          have hrun := run_append_keep (ty := o.type) (c := cap) hu hi hz hzs hfit.row hm e2 e3 e4 g5 h63
          have lift : ∀ {v' w'}, (Builtin.append_ #[t, t] o.type #[β b, .slice ad ys.length cap]).run P w = .ok v' w' → (execOp a.eval o).run P w = .ok (.value v') w' := fun hr => by
            simp only [execOp, ho, resolve, invoke, builtin, Sem.run_bind, Sem.run_pure, Result.andThen_ok, List.map_toArray, List.map_cons, List.map_nil, hv, e1, hr]
          have hrc0 := (RowCells.of_fits hfit).append (st := E.st w β S.h) (w := w) ⟨e2, g4, e4, e5⟩
          have hh : ∀ {k blk}, (S.app o.dst ⟨True, .ext b (es ++ ys), [(b, some (.rowS es ys i.size e))], b :: rx⟩).h k = some blk → (k = b ∧ blk = .rowS es ys i.size e) ∨ (k ≠ b ∧ S.h k = some blk) := by
            intro k blk hk
            have hk : (if k = b then some (Blk.rowS es ys i.size e) else S.h k) = some blk := by simpa [AState.app, updL, upd] using hk
            by_cases h1 : k = b
            · rw [if_pos h1] at hk; exact .inl ⟨h1, by simpa using hk.symm⟩
            · rw [if_neg h1] at hk; exact .inr ⟨h1, hk⟩
          have hinj : Inj β (S.app o.dst ⟨True, .ext b (es ++ ys), [(b, some (.rowS es ys i.size e))], b :: rx⟩).h := by
            intro k q b1 b2 g k1 k2 g1 g2
            rcases hh k1 with ⟨rfl, _⟩ | ⟨_, h3⟩ <;> rcases hh k2 with ⟨rfl, _⟩ | ⟨_, h6⟩
            · rfl
            · exact s.inj _ _ _ _ g hB h6 g1 g2
            · exact s.inj _ _ _ _ g h3 hB g1 g2
            · exact s.inj _ _ _ _ g h3 h6 g1 g2
          intro K Q hK
          unfold Oper.wp
          rcases hrun with ⟨g, cp, w', r1, r2, r3, r4, r5, r6⟩ | ⟨v', w', r1, r2, r3, r4, r5⟩
          · rw [lift r3, Oper.upon_value]
            refine hK β _ _ ?_
            have hbg : blkOf (β b) = some g := by rw [r1]; simp [blkOf]; omega
            have hold : ∀ k, k < w.heap.size → blkOf (β b) ≠ some k → w'.heap[k]? = w.heap[k]? := fun k h1 h2 => r6.block k h1 (fun e => h2 (by rw [hbg, e]))
            refine s.step (fun g => blkOf (β b) = some g) (fun g hgb => ⟨b, _, hB, hgb⟩) r6.os r6.tape r6.output r6.size (fun g h1 h2 => hold g h1 h2) (Grows.refl β) (fun k hk => s.fresh k hk.1) (fun k blk hk => ?_) hinj (size_put _ _ _) (by rw [defers_put]; exact s.df) (fun hst => ?_)
            · rcases hh hk with ⟨rfl, rfl⟩ | ⟨h1, h3⟩
              · refine .inr ⟨fun ok => ?_, fun g hgb => .inr hgb⟩
                have hm : ∀ g, E.st w β S.h g → w'.heap[g]? = w.heap[g]? := fun g hgs => hold g hgs.1 (hgs.2.2 _ _ hB)
                have hrc := hrc0.mono (st' := _) (w' := w') (fun g hgs => ⟨ok g hgs, hm g hgs⟩)
                have hrb := (RowCells.of_fits hfit).mono (st' := _) (w' := w') (fun g hgs => ⟨ok g hgs, hm g hgs⟩)
                refine ⟨⟨xs, hrb.2.1, h0, r5, hrb.2.2.1, hrb.2.2.2⟩, fun g2 n2 cap2 e7 e8 e9 => ⟨xs ++ news, hrc.2.1, h0, ?_, hrc.2.2.1, hrc.2.2.2⟩⟩
                rw [r1] at e7
                simp at e7
                obtain ⟨rfl, rfl, rfl⟩ := e7
                rw [List.length_append]; exact r4
              · exact .inl ⟨h3, fun g hgk hgb => h1 (s.inj k b _ _ g h3 hB hgk hgb)⟩
            · have h1 : ∀ q, SimV (E.st w' β (S.app o.dst ⟨True, .ext b (es ++ ys), [(b, some (.rowS es ys i.size e))], b :: rx⟩).h) β w' (S.t q) (a.tmps.getD q undef) := fun q => (s.tm q).mono (Grows.refl β) hst
              refine sim_put h1 o.dst hd ?_
              have := SimV.extS (st := E.st w' β (S.app o.dst ⟨True, .ext b (es ++ ys), [(b, some (.rowS es ys i.size e))], b :: rx⟩).h) (w := w') b (es ++ ys) r1 (by rw [List.length_append]; exact r2)
              rwa [List.length_append] at this
          · rw [lift r1, Oper.upon_value]
            refine hK β _ _ ?_
            have hold : ∀ k, k < w.heap.size → w'.heap[k]? = w.heap[k]? := fun k h1 => r3.block k h1 (by simp)
            refine s.step (fun g => blkOf (β b) = some g) (fun g hgb => ⟨b, _, hB, hgb⟩) r3.os r3.tape r3.output r3.size (fun g h1 _ => hold g h1) (Grows.refl β) (fun k hk => s.fresh k hk.1) (fun k blk hk => ?_) hinj (size_put _ _ _) (by rw [defers_put]; exact s.df) (fun hst => ?_)
            · rcases hh hk with ⟨rfl, rfl⟩ | ⟨h1, h3⟩
              · refine .inr ⟨fun ok => ?_, fun g hgb => ?_⟩
                · have hrb := (RowCells.of_fits hfit).mono (st' := _) (w' := w') (fun g hgs => ⟨ok g hgs, hold g hgs.1⟩)
                  exact ⟨⟨xs, hrb.2.1, h0, hfit.row.mono (fun g hgb => hold g ((s.bl _ _ hB).lt hgb)), hrb.2.2.1, hrb.2.2.2⟩, fun g2 n2 cap2 e7 e8 _ => absurd e8 (r5 g2 n2 cap2 e7)⟩
                · exact .inr hgb
              · exact .inl ⟨h3, fun g hgk hgb => h1 (s.inj k b _ _ g h3 hB hgk hgb)⟩
            · have h1 : ∀ q, SimV (E.st w' β (S.app o.dst ⟨True, .ext b (es ++ ys), [(b, some (.rowS es ys i.size e))], b :: rx⟩).h) β w' (S.t q) (a.tmps.getD q undef) := fun q => (s.tm q).mono (Grows.refl β) hst
              refine sim_put h1 o.dst hd (.extP b (es ++ ys) ?_)
              have hrc := hrc0.mono (st' := _) (w' := w') (fun g hgs => ⟨(hst g hgs).1, (hst g hgs).2⟩)
              refine pure_of_row (xs := xs ++ news) ⟨hrc.2.1, h0, by rw [List.length_append]; exact r2, hrc.2.2.1, hrc.2.2.2⟩ fun g hg => ?_
              have hge := r4 g hg
              refine ⟨?_, .inr (Nat.le_trans s.size hge), fun k blk hk hgk => ?_⟩
              · rcases r2 with ⟨a', rfl, _⟩ | ⟨g', cap', rfl, h0', hr'⟩
                · cases a' <;> simp [blkOf] at hg
                · simp [blkOf] at hg
                  have := hr'.lt g' rfl
                  rw [← hg.2]
                  exact this.2
              · rcases hh hk with ⟨rfl, _⟩ | ⟨_, h3⟩
                · have := (s.bl _ _ hB).lt hgk; omega
                · have := (s.bl _ _ h3).lt hgk; omega
        | _ => simp [hB, Eff.fail] at side
    | _ => exact side.elim

theorem does_copy (s : Sim E fr S β a w) (hd : ∀ d, o.dst = some d → d < a.tmps.size) {t t' e : TypeId} {i : TypeInfo} {p x : Operand} {p' x' : AOpd} (ho : o.op = .call { callee := .builtin .copy, args := #[p, x], argTypes := #[t, t'] })
    (hu : P.underlying t = some (.slice e)) (hp : compOpd p = some p') (hx : compOpd x = some x') (hi : P.info? e = some i) (h0 : 0 < i.size)
    (side : (effCopy S.h i.size (evo S p') (evo S x')).side) : Does P E fr S β a w nm o (effCopy S.h i.size (evo S p') (evo S x')) := by
  have h1 := sim_evo s hp
  have h2 := sim_evo s hx
  generalize evo S p' = ap at *
  generalize evo S x' = ax at *
  cases ap with
  | own b =>
    simp only [effCopy] at side ⊢
    cases hel : elemsOf S.h i.size ax with
    | none => rw [hel] at side; exact side.elim
    | some yr =>
      obtain ⟨ys, rx⟩ := yr
      rw [hel] at side
      simp only [copyX] at side ⊢
      cases hB : S.h b with
      | none => rw [hB] at side; exact side.elim
      | some blk => cases blk with
        | box cs => rw [hB] at side; exact side.elim
        | iter q p => rw [hB] at side; exact side.elim
        | rowX _ _ _ => rw [hB] at side; exact side.elim
        | map _ _ => rw [hB] at side; exact side.elim
        | rowS _ _ _ _ => rw [hB] at side; exact side.elim
        | row es sz' ty =>
          rw [hB] at side
          simp only [copyO] at side ⊢
          obtain ⟨rfl, g1, g2, g4⟩ := side
          obtain ⟨ad, m, cap0, news, e1, rfl, e2, e3, e4, e5, e6⟩ := elems_rep s h2 hel g4
          by_cases g3 : 0 < ys.length
          case neg =>
            have hy : ys = [] := List.eq_nil_of_length_eq_zero (by omega)
            have hes : es = [] := List.eq_nil_of_length_eq_zero (by omega)
            subst hy
            subst hes
            obtain ⟨hv, ad', n, cap, hc⟩ := h1.own_inv
            have hrun : (execOp a.eval o).run P w = .ok (.value (.int .i64 0)) w := by
              cases ad <;> cases ad' <;> simp [execOp, ho, resolve, invoke, builtin, Builtin.copy_, run_underlying hu, sizeOf, typeInfo, hi, Builtin.lenOf, hc, e1, Builtin.firstCells, loadCells, loadCellsFrom, storeCells, goInt]
            have hd0 := Does.value (nm := nm) (e := ⟨True, .v (.int .i64 0), [], []⟩) s hd hrun rfl (.pure (.v _))
            intro K Q hK
            refine hd0 K Q fun β' c w' s' => hK β' c w' ?_
            have hS : updL S.h [(b, some (Blk.row [] i.size ty))] = S.h := by
              funext k
              simp only [updL, upd]
              split
              · rename_i e; rw [e, hB]
              · rfl
            have hA : S.app o.dst ⟨i.size = i.size ∧ b ∉ rx ∧ ([] : List (List AV)).length = ([] : List (List AV)).length ∧ (∀ y ∈ ([] : List (List AV)), y.length = i.size), .v (.int .i64 (([] : List (List AV)).length : Nat)), [(b, some (.row [] i.size ty))], b :: rx⟩ = S.app o.dst ⟨True, .v (.int .i64 0), [], []⟩ := by
              show (⟨_, updL S.h [(b, some (Blk.row [] i.size ty))]⟩ : AState) = _
              rw [hS]
              rfl
            rw [hA]
            exact s'
          obtain ⟨q, rfl, e3'⟩ := e3 (by omega)
          obtain ⟨hv, ad', n, cap, hc⟩ := h1.own_inv
          obtain ⟨xs, hf⟩ := s.bl b _ hB
          rw [← hv, hc] at hf
          obtain ⟨hn, hnc, hcm, hpos⟩ := row_cap hf
          obtain ⟨g, cur, rfl, hg, hcur, htk⟩ := hpos (by omega)
          have hcapm : n * i.size ≤ cap * i.size := Nat.mul_le_mul_right _ hnc
          have hnl : news.length = n * i.size := by rw [e2, ← g2, ← hn]
          have hmin : Nat.min ys.length n = ys.length := by rw [hn, g2]; exact Nat.min_self _
          have hfc := run_firstCells_some (P := P) w i.size ys.length q ys.length cap0 news e2 e3'
          have hst := run_storeCells_at P g 0 ty news 0 cur w hg (by omega) e4
          have hrun : (execOp a.eval o).run P w = .ok (.value (.int .i64 ys.length)) (w.setRow g (cspl cur.toList 0 news).toArray) := by
            simp only [Nat.add_zero] at hst
            simp [execOp, ho, resolve, invoke, builtin, Builtin.copy_, run_underlying hu, sizeOf, typeInfo, hi, Builtin.lenOf, hc, e1, hmin, hfc, hst, cspl, goInt]
          have grown : ∀ g cs, w.grownBy (w.setRow g cs) (some g) := fun g cs => ⟨rfl, rfl, rfl, by simp, fun k _ hk => setRow_other w g k _ (fun e => hk (by simp [e]))⟩
          refine does_writeV (g := g) (new := .row ys i.size ty) s hd hB (by rw [← hv, hc]; simp [blkOf]; omega) hrun (grown _ _) (fun st hst => ?_) (fun st => .pure (.v _)) rfl
          refine ⟨news, g4, h0, ?_, e4, fun r j hr' hj => (e5 r j hr' hj).mono hst⟩
          rw [← hv, hc]
          refine .inr ⟨g, cap, by rw [hn, g2], by omega, e2, .inr ⟨g, cap, _, by rw [hn, g2], Nat.zero_le _, setRow_heap w g _ _ ty _ hg, by omega, hcm, ?_, ?_⟩⟩
          · simp only [List.size_toArray]; rw [cspl_length (by simp; omega)]; simpa using hcur
          · simp only [cspl, List.take_zero, List.nil_append]
            rw [← e2]
            exact List.take_left
  | _ => exact side.elim

end does
end Go.Ab
namespace Go.Ab
open Go.RowKit

theorem listH_mem : ∀ {hl : List (Nat × Blk)} {n : Nat} {b : Blk}, listH hl n = some b → (n, b) ∈ hl
  | [], n, b, h => by simp [listH] at h
  | (k, b') :: r, n, b, h => by
    simp only [listH] at h
    split at h
    · rename_i e; subst e; simp at h; subst h; exact List.mem_cons_self
    · exact List.mem_cons_of_mem _ (listH_mem h)
theorem updL_out {α : Type} : ∀ (l : List (Nat × α)) (f : Nat → α) {n : Nat}, n ∉ l.map (·.1) → updL f l n = f n
  | [], f, n, _ => rfl
  | (k, x) :: r, f, n, h => by
    simp only [List.map_cons, List.mem_cons, not_or] at h
    simp only [updL]
    rw [updL_out r _ h.2]
    simp [upd, h.1]
theorem updL_in {α : Type} : ∀ (l : List (Nat × α)) (f g : Nat → α) {n : Nat}, n ∈ l.map (·.1) → updL f l n = updL g l n
  | [], f, g, n, h => by simp at h
  | (k, x) :: r, f, g, n, h => by
    simp only [updL]
    by_cases hr : n ∈ r.map (·.1)
    · exact updL_in r _ _ hr
    · have hk : n = k := by simpa [hr] using h
      rw [updL_out r _ hr, updL_out r _ hr]
      simp [upd, hk]

section does
variable {P : Program} {E : Entry} {fr : Nat → Prop} {S : AState} {β : Nat → Value} {a : Act} {w : World} {nm : Nat} {o : Oper}

theorem does_enter (s : Sim E fr S β a w) (hf : fr nm) (hd : ∀ d, o.dst = some d → d < a.tmps.size) {f : FuncId} {args : List AV} {cs : List Value} (hrun : (execOp a.eval o).run P w = .ok (.enter f cs.toArray) w) (hv : Vals (E.st w β S.h) β w args cs) (an : Ans)
    (side : (effCall P S nm an f args).side) : Does P E fr S β a w nm o (effCall P S nm an f args) := by
  obtain ⟨g1, g2, g3, _, g4⟩ := side
  intro K Q hK
  unfold Oper.wp
  rw [hrun, Oper.upon_enter]
  have hlS : ∀ n b, listH an.hl n = some b → S.h n = some b := fun n b h => g1 _ (listH_mem h)
  have hst : ∀ g, E.st w β S.h g → stb (fun g => E.now g ∧ ∀ n b, S.h n = some b → blkOf (β n) ≠ some g) w β (listH an.hl) g := fun g h => ⟨h.1, ⟨h.2.1, h.2.2⟩, fun n b hb => h.2.2 n b (hlS n b hb)⟩
  have hc := g4 (fun g => E.now g ∧ ∀ n b, S.h n = some b → blkOf (β n) ≠ some g) β w cs (s.fresh nm hf)
    (fun n b hb => (s.bl n b (hlS n b hb)).mono (Grows.refl _) (fun g hg => ⟨hst g hg, rfl⟩) (fun _ _ => rfl))
    (fun n m b b' g h1 h2 => s.inj n m b b' g (hlS n b h1) (hlS m b' h2))
    ⟨hv.1, fun j hj => (hv.2 j hj).mono (Grows.refl _) (fun g hg => ⟨hst g hg, rfl⟩)⟩
  refine hc.mono fun e w' ⟨c, β', he, k1, k2, k3, k4, k5, k6, k7, k8, k9, k10⟩ => ?_
  subst he
  refine hK β' c w' ?_
  have hβu : β nm = undef := s.fresh nm hf
  have hnames : ∀ n, n ∈ an.ups.map (·.1) → n = nm ∨ n ∈ an.hl.map (·.1) := fun n hn => by
    obtain ⟨p, hp, rfl⟩ := List.mem_map.1 hn
    exact g2 p hp
  have hSh : ∀ {n b}, updL S.h an.ups n = some b → (n ∈ an.ups.map (·.1) ∧ updL (listH an.hl) an.ups n = some b) ∨ (n ∉ an.ups.map (·.1) ∧ S.h n = some b) := fun {n b} h => by
    by_cases hn : n ∈ an.ups.map (·.1)
    · exact .inl ⟨hn, by rw [updL_in an.ups (listH an.hl) S.h hn]; exact h⟩
    · exact .inr ⟨hn, by rw [updL_out an.ups S.h hn] at h; exact h⟩
  have hfin : ∀ g, stb (fun g => (E.now g ∧ ∀ n b, S.h n = some b → blkOf (β n) ≠ some g) ∨ w.heap.size ≤ g) w' β' (updL (listH an.hl) an.ups) g → E.st w' β' (updL S.h an.ups) g := by
    intro g ⟨h1, h2, h3⟩
    refine ⟨h1, ?_, fun n b hb => ?_⟩
    · rcases h2 with h2 | h2
      · exact h2.1
      · exact .inr (Nat.le_trans s.size h2)
    · rcases hSh hb with ⟨_, h5⟩ | ⟨h4, h5⟩
      · exact h3 n b h5
      · have hr := s.bl n b h5
        rw [k5 n hr.named]
        rcases h2 with h2 | h2
        · exact h2.2 n b h5
        · intro hg
          have := hr.lt hg
          omega
  refine s.step (fun g => ∃ n b, listH an.hl n = some b ∧ n ∈ an.ups.map (·.1) ∧ blkOf (β n) = some g) (fun g ⟨n, b, h1, _, h2⟩ => ⟨n, b, hlS n b h1, h2⟩) k1 k2 k3 k4
    (fun g h1 h2 => k7 g h1 (fun n b h3 h4 h5 => h2 ⟨n, b, h3, h4, h5⟩)) k5 (fun n hn => by rw [k6 n hn.2]; exact s.fresh n hn.1) (fun n b hb => ?_) ?_ (size_put _ _ _) (by rw [defers_put]; exact s.df) (fun hkeep => ?_)
  · rcases hSh hb with ⟨h1, h2⟩ | ⟨h1, h2⟩
    · obtain ⟨h3, h4⟩ := k9 n b h2 h1
      refine .inr ⟨fun _ => h3.mono (Grows.refl _) (fun g hg => ⟨hfin g hg, rfl⟩) (fun _ _ => rfl), fun g hg => ?_⟩
      rcases h4 g hg with h5 | ⟨m, b', h5, h6, h7⟩
      · exact .inl h5
      · exact .inr ⟨m, b', h5, h6, h7⟩
    · refine .inl ⟨h2, fun g hg ⟨m, b', h3, h4, h5⟩ => ?_⟩
      have := s.inj n m b b' g h2 (hlS m b' h3) hg h5
      subst this
      exact h1 h4
  · intro n m b b' g hb hb' hg hg'
    rcases hSh hb with ⟨h1, h2⟩ | ⟨h1, h2⟩ <;> rcases hSh hb' with ⟨h3, h4⟩ | ⟨h3, h4⟩
    · exact k10 n m b b' g h2 h4 hg hg'
    · have hm := s.bl m b' h4
      rw [k5 m hm.named] at hg'
      rcases (k9 n b h2 h1).2 g hg with h5 | ⟨q, bq, h5, h6, h7⟩
      · have := hm.lt hg'; omega
      · have := s.inj q m bq b' g (hlS q bq h5) h4 h7 hg'
        subst this
        exact absurd h6 h3
    · have hm := s.bl n b h2
      rw [k5 n hm.named] at hg
      rcases (k9 m b' h4 h3).2 g hg' with h5 | ⟨q, bq, h5, h6, h7⟩
      · have := hm.lt hg; omega
      · have := s.inj q n bq b g (hlS q bq h5) h2 h7 hg
        subst this
        exact absurd h6 h1
    · rw [k5 n (s.bl n b h2).named] at hg
      rw [k5 m (s.bl m b' h4).named] at hg'
      exact s.inj n m b b' g h2 h4 hg hg'
  · exact sim_put (fun t => (s.tm t).mono k5 hkeep) o.dst hd (k8.mono (Grows.refl _) (fun g hg => ⟨hfin g hg, rfl⟩))

theorem run_callFunc {f : FuncId} (h : Callable P f) (cs : Array Value) : (callFunc f cs).run P w = .ok (.enter f cs) w := by
  obtain ⟨fn, h1, h2, h3⟩ := h
  have h4 : ¬ fn.body = none := by cases hb : fn.body <;> simp_all
  have h5 : ¬ fn.name = "runtime.NumGoroutine" := by simpa using h3
  simp [callFunc, h1, h4, h5]

theorem does_call (s : Sim E fr S β a w) (hf : fr nm) (hd : ∀ d, o.dst = some d → d < a.tmps.size) {f : FuncId} {args : Array Operand} {args' : List AOpd} {ts : Array TypeId} (ho : o.op = .call { callee := .value (.func f), args := args, argTypes := ts }) (ha : args.toList.mapM compOpd = some args') (an : Ans)
    (side : (effCall P S nm an f (args'.map (evo S))).side) : Does P E fr S β a w nm o (effCall P S nm an f (args'.map (evo S))) := by
  have hv := sim_evos s args.toList args' ha
  refine does_enter s hf hd (cs := args.toList.map a.eval) ?_ hv an side
  have e : (args.toList.map a.eval).toArray = args.map a.eval := by apply Array.ext'; simp
  rw [e]
  have hr := run_callFunc (P := P) (w := w) side.2.2.2.1 (args.map a.eval)
  have e0 : a.eval (.func f) = .func (.func f) #[] #[] := rfl
  simp [execOp, ho, resolve, e0, Deferred.ofValue, invoke, hr]

theorem does_callv (s : Sim E fr S β a w) (hf : fr nm) (hd : ∀ d, o.dst = some d → d < a.tmps.size) {x : Operand} {x' : AOpd} {args : Array Operand} {args' : List AOpd} {ts : Array TypeId} (ho : o.op = .call { callee := .value x, args := args, argTypes := ts }) (hx : compOpd x = some x') (ha : args.toList.mapM compOpd = some args') (an : Ans)
    (side : (effCallV P S nm an (args'.map (evo S)) (evo S x')).side) : Does P E fr S β a w nm o (effCallV P S nm an (args'.map (evo S)) (evo S x')) := by
  have hv := sim_evos s args.toList args' ha
  have h1 := sim_evo s hx
  generalize evo S x' = ax at *
  cases ax with
  | fn f caps =>
    obtain ⟨xs, e1, e2, e3⟩ := h1.fn_inv
    refine does_enter s hf hd (cs := args.toList.map a.eval ++ xs) ?_ ?_ an side
    · have e : (args.toList.map a.eval ++ xs).toArray = args.map a.eval ++ xs.toArray := by apply Array.ext'; simp
      rw [e]
      have hr := run_callFunc (P := P) (w := w) side.2.2.2.1 (args.map a.eval ++ xs.toArray)
      simp [execOp, ho, resolve, e1, Deferred.ofValue, invoke, hr]
    · refine ⟨by have := hv.1; simp at this; simp [e2, this], fun j hj => ?_⟩
      have hl : (args'.map (evo S)).length = (args.toList.map a.eval).length := hv.1
      rw [cv_append]
      by_cases hlt : j < (args.toList.map a.eval).length
      · rw [if_pos hlt]
        have : av (args'.map (evo S) ++ caps) j = av (args'.map (evo S)) j := by simp only [av, List.getD_eq_getElem?_getD]; rw [List.getElem?_append_left (by omega)]
        rw [this]
        exact hv.2 j (by omega)
      · rw [if_neg hlt]
        have : av (args'.map (evo S) ++ caps) j = av caps (j - (args.toList.map a.eval).length) := by simp only [av, List.getD_eq_getElem?_getD]; rw [List.getElem?_append_right (by omega), hl]
        rw [this]
        exact e3 _ (by simp only [List.length_append] at hj; omega)
  | _ => exact side.elim

end does
end Go.Ab
namespace Go.Ab
open Go.RowKit

section does
variable {P : Program} {E : Entry} {fr : Nat → Prop} {S : AState} {β : Nat → Value} {a : Act} {w : World} {nm : Nat} {o : Oper}

theorem does_range (s : Sim E fr S β a w) (hf : fr nm) (hd : ∀ d, o.dst = some d → d < a.tmps.size) {t : TypeId} {x : Operand} {x' : AOpd} (ho : o.op = .range t x) (ht : P.underlying t = some .string) (hx : compOpd x = some x')
    (side : (effRange nm (evo S x')).side) : Does P E fr S β a w nm o (effRange nm (evo S x')) := by
  have h1 := sim_evo s hx
  generalize evo S x' = ax at *
  cases ax with
  | v z => cases z with
    | string q =>
      have e1 := h1.v_inv
      have hrun : (execOp a.eval o).run P w = .ok (.value (.pointer (some ⟨w.heap.size, 0, none⟩))) (w.iter q 0) := by
        have := run_range_string (P := P) w t q ht
        simp only [execOp, ho, e1, Sem.run_bind, this, Result.andThen_ok, Sem.run_pure]
      intro K Q hK
      unfold Oper.wp
      rw [hrun, Oper.upon_value]
      refine hK (upd β nm (.pointer (some ⟨w.heap.size, 0, none⟩))) _ _ ?_
      unfold AState.app
      simp only [effRange, updL_one]
      have hold : ∀ g, g < w.heap.size → (w.iter q 0).heap[g]? = w.heap[g]? := fun g hg => by
        show (w.heap.push _)[g]? = _
        rw [Array.getElem?_push]; rw [if_neg (by omega)]
      refine s.alloc o.dst hd hf (w' := w.iter q 0) _ (.iter q 0) _ rfl rfl rfl (by show w.heap.size ≤ (w.heap.push _).size; simp) hold (fun st β' h => .bp nm 0 ?_) (fun g hg => ?_) (fun st β' _ _ => ?_)
      · exact h
      · simp [blkOf] at hg; omega
      · exact ⟨_, rfl, World.iter_heap w q 0⟩
    | _ => exact side.elim
  | _ => exact side.elim

theorem does_next (s : Sim E fr S β a w) (hd : ∀ d, o.dst = some d → d < a.tmps.size) {x : Operand} {x' : AOpd} (ho : o.op = .next x true) (hx : compOpd x = some x')
    (side : (effNext S.h (evo S x')).side) : Does P E fr S β a w nm o (effNext S.h (evo S x')) := by
  have h1 := sim_evo s hx
  generalize evo S x' = ax at *
  cases ax with
  | bp b k => cases k with
    | succ k => exact side.elim
    | zero =>
      obtain ⟨g, hb, e1⟩ := h1.bp_inv
      cases hB : S.h b with
      | none => simp [effNext, hB, Eff.fail] at side
      | some y => cases y with
        | box cs => simp [effNext, hB, Eff.fail] at side
        | row es sz e => simp [effNext, hB, Eff.fail] at side
        | rowX _ _ _ => simp [effNext, hB, Eff.fail] at side
        | map _ _ => simp [effNext, hB, Eff.fail] at side
        | rowS _ _ _ _ => simp [effNext, hB, Eff.fail] at side
        | iter q pos =>
          have he : effNext S.h (.bp b 0) = ⟨True, nextV q pos, [(b, some (.iter q (nextPos q pos)))], [b]⟩ := by simp [effNext, hB]
          rw [he]
          obtain ⟨g', f1, f2⟩ := s.bl b _ hB
          rw [hb] at f1
          simp at f1
          subst f1
          have hlt : g < w.heap.size := (Array.getElem?_eq_some_iff.1 f2).1
          have hone : ∀ u ∈ ([.bool true, .int .i64 pos, .int .i32 ((Utf8.decode q pos).1 : Nat)] : List Value), True := fun _ _ => trivial
          by_cases hp : pos < q.size
          · have hr := fun ty => Lib.run_next_any_at (P := P) w g q pos ty f2 hp
            refine does_writeV (g := g) (new := .iter q (nextPos q pos)) (w' := w.iterAt g q (pos + (Utf8.decode q pos).2)) (c := .tuple #[.bool true, .int .i64 pos, .int .i32 (Utf8.decode q pos).1]) s hd hB (by rw [hb]; rfl) ?_ ⟨rfl, rfl, rfl, by simp [World.iterAt], fun k _ hk => ?_⟩ (fun st hst => ?_) (fun st => ?_) rfl
            · simp only [execOp, ho, e1, Sem.run_bind, hr, Result.andThen_ok, Sem.run_pure]
            · have : k ≠ g := fun e => hk (by rw [e])
              simp [World.iterAt, Array.getElem?_setIfInBounds, Ne.symm this]
            · refine ⟨g, hb, ?_⟩
              simp only [nextPos, if_pos hp]
              exact Lib.iterAt_heap w g q pos _ f2
            · simp only [nextV, if_pos hp]
              exact .tup _ [.bool true, .int .i64 pos, .int .i32 (Utf8.decode q pos).1] rfl fun j hj => by
                match j, hj with
                | 0, _ => exact .pure (.v _)
                | 1, _ => exact .pure (.v _)
                | 2, _ => exact .pure (.v _)
          · have hr := fun ty => Lib.run_next_end_at (P := P) w g q pos ty f2 hp
            refine does_writeV (g := g) (new := .iter q (nextPos q pos)) (w' := w) (c := .tuple #[.bool false]) s hd hB (by rw [hb]; rfl) ?_ ⟨rfl, rfl, rfl, Nat.le_refl _, fun k _ hk => rfl⟩ (fun st hst => ?_) (fun st => ?_) rfl
            · simp only [execOp, ho, e1, Sem.run_bind, hr, Result.andThen_ok, Sem.run_pure]
            · refine ⟨g, hb, ?_⟩
              simp only [nextPos, if_neg hp]
              exact f2
            · simp only [nextV, if_neg hp]
              exact .tup _ [.bool false] rfl fun j hj => by
                match j, hj with
                | 0, _ => exact .pure (.v _)
  | _ => exact side.elim
end does

end Go.Ab
namespace Go.Ab
open Go.RowKit
open Go.MapKept

theorem beq_toList (a b : ByteArray) : (a == b) = (a.toList == b.toList) := by
  rw [Bool.eq_iff_iff, bytes_beq, beq_iff_eq]
  constructor
  · rintro rfl; rfl
  · intro h
    rw [ByteArray.toList_eq, ByteArray.toList_eq] at h
    obtain ⟨x⟩ := a
    obtain ⟨y⟩ := b
    have : x = y := by simpa using h
    rw [this]
theorem mapIx_lt {ks : List ByteArray} {s : ByteArray} {i : Nat} (h : mapIx ks s = some i) : i < ks.length := (List.findIdx?_eq_some_iff_getElem.1 h).1
theorem findNow_map (s : ByteArray) : ∀ (ks : List ByteArray) (es : List MapEntry) (f : Nat → Value) (n : Nat), es.length = ks.length →
    (∀ i, i < ks.length → ∃ born, es[i]? = some ⟨.string (ks.getD i ⟨#[]⟩), f i, born⟩) → Instr.findNow .string (.string s) es n = some ((mapIx ks s).map fun i => (n + i, f i))
  | [], [], f, n, _, _ => rfl
  | k :: ks, e :: es, f, n, hl, h => by
    obtain ⟨b0, h0⟩ := h 0 (by simp)
    simp only [List.getElem?_cons_zero, Option.some.injEq] at h0
    have ih := findNow_map s ks es (fun i => f (i + 1)) (n + 1) (by simpa using hl) fun i hi => by
      obtain ⟨b, hb⟩ := h (i + 1) (by simpa using hi)
      exact ⟨b, by simpa using hb⟩
    subst h0
    have e1 : mapIx (k :: ks) s = if (s.toList == k.toList) = true then some 0 else (mapIx ks s).map (· + 1) := by
      unfold mapIx
      rw [List.findIdx?_cons]
    have e2 : ((k :: ks).getD 0 ⟨#[]⟩) = k := rfl
    rw [e1, e2]
    unfold Instr.findNow
    simp only [Instr.sameNow, beq_toList]
    cases hb : (s.toList == k.toList)
    · simp only [Bool.false_eq_true, if_false]
      rw [ih]
      cases mapIx ks s with
      | none => rfl
      | some i => simp only [Option.map_some]; congr 3; omega
    · simp
theorem MapAt.find {ks : List ByteArray} {f : Nat → Value} {es : Array MapEntry} (hl : es.size = ks.length) (h : ∀ i, i < ks.length → ∃ born, es[i]? = some ⟨.string (ks.getD i ⟨#[]⟩), f i, born⟩) (s : ByteArray) :
    Instr.findNow .string (.string s) es.toList 0 = some ((mapIx ks s).map fun i => (i, f i)) := by
  have := findNow_map s ks es.toList f 0 (by simpa using hl) (fun i hi => by
    obtain ⟨b, hb⟩ := h i hi
    exact ⟨b, by rw [Array.getElem?_toList]; exact hb⟩)
  rw [this]
  cases mapIx ks s <;> simp

theorem strMap_some {P : Program} {t e : TypeId} (h : strMap P t = some e) : ∃ k, P.underlying t = some (.map k e) ∧ P.underlying k = some .string := by
  unfold strMap at h
  split at h
  · rename_i k e' h1
    split at h
    · rename_i h2
      simp at h
      subst h
      exact ⟨k, h1, h2⟩
    · cases h
  · cases h

section does
variable {P : Program} {E : Entry} {fr : Nat → Prop} {S : AState} {β : Nat → Value} {a : Act} {w : World} {nm : Nat} {o : Oper}

theorem does_mapMake (s : Sim E fr S β a w) (hf : fr nm) (hd : ∀ d, o.dst = some d → d < a.tmps.size) {t : TypeId} (ho : o.op = .makeMap t none) : Does P E fr S β a w nm o (effMapMake nm) := by
  have hrun : (execOp a.eval o).run P w = .ok (.value (.map (some w.heap.size))) (w.alloc (.map #[] 0)) := by
    simp [execOp, ho, Instr.makeMap, newObj]
    rfl
  intro K Q hK
  unfold Oper.wp
  rw [hrun, Oper.upon_value]
  refine hK (upd β nm (.map (some w.heap.size))) _ _ ?_
  unfold AState.app
  simp only [effMapMake, updL_one]
  have hold := (heap_alloc w (.map #[] 0)).2
  refine s.alloc o.dst hd hf (w' := w.alloc (.map #[] 0)) _ (.map [] []) _ rfl rfl rfl (by show w.heap.size ≤ (w.heap.push _).size; simp) hold (fun st β' h => .mapv nm ?_) (fun g hg => ?_) (fun st β' _ _ => ?_)
  · exact h
  · simp [blkOf] at hg; omega
  · exact ⟨_, fun _ => undef, rfl, ⟨#[], 0, (heap_alloc w _).1, rfl, fun i hi => by simp at hi⟩, rfl, fun i hi => by simp at hi⟩

theorem does_mapLen (s : Sim E fr S β a w) (hd : ∀ d, o.dst = some d → d < a.tmps.size) {x : Operand} {x' : AOpd} {t k e : TypeId} (ho : o.op = .call { callee := .builtin .len, args := #[x], argTypes := #[t] }) (hx : compOpd x = some x')
    (ht : P.underlying t = some (.map k e)) (side : (effMapLen S.h (evo S x')).side) : Does P E fr S β a w nm o (effMapLen S.h (evo S x')) := by
  have h1 := sim_evo s hx
  generalize evo S x' = ax at *
  cases ax with
  | mapv b =>
    obtain ⟨g, hb, e1⟩ := h1.mapv_inv
    simp only [effMapLen] at side ⊢
    cases hB : S.h b with
    | none => rw [hB] at side; exact side.elim
    | some y => cases y with
      | map ks vs =>
        obtain ⟨g', f, hg', ⟨es, clock, hm, hsz, hes⟩, _, _⟩ := s.bl b _ hB
        rw [hb] at hg'
        simp at hg'
        subst hg'
        refine Does.value s hd (c := .int .i64 ks.length) ?_ rfl (.pure (.v _))
        simp [execOp, ho, e1, resolve, invoke, builtin, Builtin.len_, run_underlying ht, goInt, MapKept.run_getObj_map hm, hsz]
      | _ => rw [hB] at side; exact side.elim
  | _ => exact side.elim

theorem zeroEl_run {e : TypeId} {z : AV} (hz : zeroEl P e = some z) : ∃ c, (zeroValue e).run P w = .ok c w ∧ ∀ st, PureV st w z c := by
  unfold zeroEl at hz
  cases hi : P.info? e with
  | none => simp [hi] at hz
  | some i =>
    cases hz0 : i.zero with
    | none => simp [hi, hz0] at hz
    | some c =>
      refine ⟨c, by simp [zeroValue, typeInfo, hi, hz0], fun st => ?_⟩
      simp only [hi, hz0, Option.bind_some] at hz
      split at hz
      · rename_i cs heq
        split at hz
        · rename_i hall
          simp at hz heq
          subst hz
          subst heq
          have e1 : cs = cs.toList.toArray := by simp
          have := PureV.agg (st := st) (w := w) (cs.toList.map AV.ofV) cs.toList (by simp) (fun x hx => (Array.all_eq_true'.1 hall) x (by simpa using hx)) (fun j hj => by
            have hj' : j < cs.toList.length := by simpa using hj
            have e5 : av (cs.toList.map AV.ofV) j = AV.ofV (cv cs.toList j) := by simp only [av, cv, List.getD_eq_getElem?_getD, List.getElem?_map, List.getElem?_eq_getElem hj', Option.map_some, Option.getD_some]
            rw [e5]
            exact pure_ofV _)
          rwa [← e1] at this
        · cases hz
      · rename_i z' hne heq
        simp at hz heq
        subst hz
        subst heq
        exact pure_ofV _
      · rename_i heq; cases heq

theorem does_mapGet (s : Sim E fr S β a w) (hd : ∀ d, o.dst = some d → d < a.tmps.size) {x k : Operand} {x' k' : AOpd} {t e : TypeId} {ok : Bool} {z : AV} (ho : o.op = .lookup t x k ok) (hx : compOpd x = some x') (hk : compOpd k = some k')
    (ht : strMap P t = some e) (hz : zeroEl P e = some z) (side : (effMapGet S.h z ok (evo S x') (evo S k')).side) : Does P E fr S β a w nm o (effMapGet S.h z ok (evo S x') (evo S k')) := by
  have h1 := sim_evo s hx
  have h2 := sim_evo s hk
  generalize evo S x' = ax at *
  generalize evo S k' = ak at *
  obtain ⟨kt, ht1, ht2⟩ := strMap_some ht
  unfold effMapGet at side ⊢
  split at side
  · rename_i b str
    have e2 := h2.v_inv
    obtain ⟨g, hb, e1⟩ := h1.mapv_inv
    show Does P E fr S β a w nm o (mapGetB b z ok str (S.h b))
    cases hB : S.h b with
    | none => rw [hB] at side; exact side.elim
    | some y => cases y with
      | map ks vs =>
        obtain ⟨g', f, hg', ⟨es, clock, hm, hsz, hes⟩, hvl, hval⟩ := s.bl b _ hB
        rw [hb] at hg'
        simp at hg'
        subst hg'
        have hfind := MapAt.find hsz hes str
        have hck : (Instr.checkKey es.isEmpty 10000 kt (.string str)).run P w = .ok () w := run_checkKey (n := 9999) ht2 (by simp [IsKey]) _
        obtain ⟨zc, hzr, hzp⟩ := zeroEl_run (w := w) hz
        have hgo : ∀ (v : AV) (c : Value) (fd : Bool), SimV (E.st w β S.h) β w v c → SimV (E.st w β S.h) β w (mapRet ok v fd) (if ok then .tuple #[c, .bool fd] else c) := fun v c fd hv => by
          cases ok
          · exact hv
          · exact .tup [v, .v (.bool fd)] [c, .bool fd] rfl fun j hj => by
              match j, hj with
              | 0, _ => exact hv
              | 1, _ => exact .pure (.v _)
        simp only [mapGetB]
        cases hix : mapIx ks str with
        | none =>
          rw [hix] at hfind
          refine Does.value s hd (c := if ok then .tuple #[zc, .bool false] else zc) ?_ rfl (hgo z zc false (.pure (hzp _)))
          simp [execOp, ho, e1, e2, Instr.lookup, run_underlying ht1, MapKept.run_getObj_map hm, hck, run_findKey ht2 hfind, hzr]
        | some i =>
          rw [hix] at hfind
          refine Does.value s hd (c := if ok then .tuple #[f i, .bool true] else f i) ?_ rfl (hgo (av vs i) (f i) true (.pure (hval i (mapIx_lt hix))))
          simp [execOp, ho, e1, e2, Instr.lookup, run_underlying ht1, MapKept.run_getObj_map hm, hck, run_findKey ht2 hfind]
      | _ => rw [hB] at side; exact side.elim
  · rename_i ks vs str
    have e2 := h2.v_inv
    obtain ⟨g, f, e1, _, ⟨es, clock, hm, hsz, hes⟩, hvl, hval⟩ := h1.mpf_inv
    show Does P E fr S β a w nm o ⟨True, mapRet ok (mapVal vs z (mapIx ks str)) (mapIx ks str).isSome, [], []⟩
    have hfind := MapAt.find hsz hes str
    have hck : (Instr.checkKey es.isEmpty 10000 kt (.string str)).run P w = .ok () w := run_checkKey (n := 9999) ht2 (by simp [IsKey]) _
    obtain ⟨zc, hzr, hzp⟩ := zeroEl_run (w := w) hz
    have hgo : ∀ (v : AV) (c : Value) (fd : Bool), SimV (E.st w β S.h) β w v c → SimV (E.st w β S.h) β w (mapRet ok v fd) (if ok then .tuple #[c, .bool fd] else c) := fun v c fd hv => by
      cases ok
      · exact hv
      · exact .tup [v, .v (.bool fd)] [c, .bool fd] rfl fun j hj => by
          match j, hj with
          | 0, _ => exact hv
          | 1, _ => exact .pure (.v _)
    cases hix : mapIx ks str with
    | none =>
      rw [hix] at hfind
      refine Does.value s hd (c := if ok then .tuple #[zc, .bool false] else zc) ?_ rfl (hgo z zc false (.pure (hzp _)))
      simp [execOp, ho, e1, e2, Instr.lookup, run_underlying ht1, MapKept.run_getObj_map hm, hck, run_findKey ht2 hfind, hzr]
    | some i =>
      rw [hix] at hfind
      refine Does.value s hd (c := if ok then .tuple #[f i, .bool true] else f i) ?_ rfl (hgo (av vs i) (f i) true (.pure (hval i (mapIx_lt hix))))
      simp [execOp, ho, e1, e2, Instr.lookup, run_underlying ht1, MapKept.run_getObj_map hm, hck, run_findKey ht2 hfind]
  · exact side.elim

theorem grown_set (w : World) (g : Nat) (o : Obj) : w.grownBy { w with heap := w.heap.setIfInBounds g o } (some g) :=
  ⟨rfl, rfl, rfl, by simp, fun k _ hk => by
    have : k ≠ g := fun e => hk (by rw [e])
    simp [Ne.symm this]⟩

theorem SimV.flatD {st : Nat → Prop} {β : Nat → Value} {w : World} {x : AV} {c : Value} (h : SimV st β w x c) (h1 : x.flatD = true) : PureV st w x c := by
  cases x with
  | agg cs =>
    obtain ⟨xs, rfl, hl, ho, hr⟩ := h.agg_inv
    refine .agg cs xs hl ho fun j hj => (hr j hj).flat ?_
    simp only [AV.flatD, List.all_eq_true] at h1
    refine h1 _ ?_
    simp only [av, List.getD_eq_getElem?_getD, List.getElem?_eq_getElem hj, Option.getD_some]
    exact List.getElem_mem hj
  | _ => exact h.flat h1

theorem does_mapPut (s : Sim E fr S β a w) (hd : ∀ d, o.dst = some d → d < a.tmps.size) {x k v : Operand} {x' k' v' : AOpd} {t e : TypeId} (ho : o.op = .mapUpdate t x k v ∨ o.op = .insert t x k v) (hx : compOpd x = some x') (hk : compOpd k = some k') (hv : compOpd v = some v')
    (ht : strMap P t = some e) (side : (effMapPut S.h (evo S v') (evo S x') (evo S k')).side) : Does P E fr S β a w nm o (effMapPut S.h (evo S v') (evo S x') (evo S k')) := by
  have h1 := sim_evo s hx
  have h2 := sim_evo s hk
  have h3 := sim_evo s hv
  generalize evo S x' = ax at *
  generalize evo S k' = ak at *
  generalize evo S v' = axv at *
  obtain ⟨kt, ht1, ht2⟩ := strMap_some ht
  unfold effMapPut at side ⊢
  split at side
  · rename_i b str
    have e2 := h2.v_inv
    obtain ⟨g, hb, e1⟩ := h1.mapv_inv
    show Does P E fr S β a w nm o (mapPutB b str axv (S.h b))
    cases hB : S.h b with
    | none => rw [hB] at side; exact side.elim
    | some y => cases y with
      | map ks vs =>
        rw [hB] at side
        have hp : PureV (E.st w β S.h) w axv (a.eval v) := h3.flatD side
        obtain ⟨g', f, hg', ⟨es, clock, hm, hsz, hes⟩, hvl, hval⟩ := s.bl b _ hB
        rw [hb] at hg'
        simp at hg'
        subst hg'
        have hfind := MapAt.find hsz hes str
        have hck : (Instr.checkKey false 10000 kt (.string str)).run P w = .ok () w := run_checkKey (n := 9999) ht2 (by simp [IsKey]) _
        have hset := fun o' => heap_set (w := w) (o' := o') hm
        simp only [mapPutB]
        cases hix : mapIx ks str with
        | none =>
          rw [hix] at hfind
          refine does_write (g := g) (old := .map ks vs) (new := .map (ks ++ [str]) (vs ++ [axv])) (w' := { w with heap := w.heap.setIfInBounds g (.map (es.push { key := .string str, val := a.eval v, born := clock }) (clock + 1)) }) s hd hB (by rw [hb]; rfl) ?_ (grown_set _ _ _) (fun st hst => ?_) rfl rfl
          · rcases ho with ho | ho <;> simp [execOp, ho, e1, e2, Instr.mapUpdate, run_underlying ht1, MapKept.run_getObj_map hm, hck, run_findKey ht2 hfind, run_setObj_map _ hm]
          · refine ⟨g, fun i => if i < ks.length then f i else a.eval v, hb, ⟨_, _, (hset _).1, by simp [hsz], fun i hi => ?_⟩, by simp [hvl], fun i hi => ?_⟩
            · by_cases hlt : i < ks.length
              · obtain ⟨born, hbn⟩ := hes i hlt
                refine ⟨born, ?_⟩
                rw [Array.getElem?_push, if_neg (by omega), hbn]
                simp [List.getD_eq_getElem?_getD, List.getElem?_append_left hlt, hlt]
              · have : i = ks.length := by simp at hi; omega
                subst this
                refine ⟨clock, ?_⟩
                rw [Array.getElem?_push, if_pos hsz.symm]
                simp [List.getD_eq_getElem?_getD]
            · by_cases hlt : i < ks.length
              · rw [if_pos hlt]
                have : av (vs ++ [axv]) i = av vs i := by simp [av, List.getD_eq_getElem?_getD, List.getElem?_append_left (show i < vs.length by omega)]
                rw [this]
                exact (hval i hlt).mono hst
              · have : i = ks.length := by simp at hi; omega
                subst this
                rw [if_neg hlt]
                have : av (vs ++ [axv]) ks.length = axv := by rw [← hvl]; simp [av, List.getD_eq_getElem?_getD]
                rw [this]
                exact hp.mono hst
        | some i =>
          rw [hix] at hfind
          have hil := mapIx_lt hix
          obtain ⟨hil', heq, _⟩ := List.findIdx?_eq_some_iff_getElem.1 hix
          have hke : ks[i] = str := by
            have : (str == ks[i]) = true := by rw [beq_toList]; exact heq
            exact ((bytes_beq _ _).1 this).symm
          obtain ⟨born, hbn⟩ := hes i hil
          have hkd : ks.getD i ⟨#[]⟩ = str := by rw [List.getD_eq_getElem?_getD, List.getElem?_eq_getElem hil]; exact hke
          have hstay : (Instr.keyThatStays (.string str) (.string str)).run P w = .ok (.string str) w := run_keyThatStays (d := .string) (by simp [IsKey])
          refine does_write (g := g) (old := .map ks vs) (new := .map (ks.set i str) (vs.set i axv)) (w' := { w with heap := w.heap.setIfInBounds g (.map (es.modify i fun e => { e with key := .string str, val := a.eval v }) clock) }) s hd hB (by rw [hb]; rfl) ?_ (grown_set _ _ _) (fun st hst => ?_) rfl rfl
          · rcases ho with ho | ho <;> simp [execOp, ho, e1, e2, Instr.mapUpdate, run_underlying ht1, MapKept.run_getObj_map hm, hck, run_findKey ht2 hfind, hbn, -List.getD_eq_getElem?_getD, hkd, hstay, run_setObj_map _ hm]
          · refine ⟨g, fun j => if i = j then a.eval v else f j, hb, ⟨_, _, (hset _).1, by simp [hsz], fun j hj => ?_⟩, by simp [hvl], fun j hj => ?_⟩
            · have hj' : j < ks.length := by simpa using hj
              obtain ⟨bj, hbj⟩ := hes j hj'
              refine ⟨bj, ?_⟩
              rw [Array.getElem?_modify]
              by_cases e : i = j
              · subst e
                rw [if_pos rfl, hbj]
                simp [List.getD_eq_getElem?_getD, hj']
              · dsimp only
                rw [if_neg e, hbj, if_neg e]
                simp [List.getD_eq_getElem?_getD, List.getElem?_set, e]
            · have hj' : j < ks.length := by simpa using hj
              by_cases e : i = j
              · subst e
                rw [if_pos rfl]
                have : av (vs.set i axv) i = axv := by simp [av, List.getD_eq_getElem?_getD, show i < vs.length by omega]
                rw [this]
                exact hp.mono hst
              · rw [if_neg e]
                have : av (vs.set i axv) j = av vs j := by simp [av, List.getD_eq_getElem?_getD, List.getElem?_set, e]
                rw [this]
                exact (hval j hj').mono hst
      | _ => rw [hB] at side; exact side.elim
  · exact side.elim

theorem getD_erase {α : Type} (l : List α) (d : α) (i j : Nat) : (l.eraseIdx i).getD j d = if j < i then l.getD j d else l.getD (j + 1) d := by
  simp only [List.getD_eq_getElem?_getD, List.getElem?_eraseIdx]
  split <;> rfl
theorem does_mapDel (s : Sim E fr S β a w) (hd : ∀ d, o.dst = some d → d < a.tmps.size) {x k : Operand} {x' k' : AOpd} {t t' e : TypeId} (ho : o.op = .call { callee := .builtin .delete, args := #[x, k], argTypes := #[t, t'] }) (hx : compOpd x = some x') (hk : compOpd k = some k')
    (ht : strMap P t = some e) (side : (effMapDel S.h (evo S x') (evo S k')).side) : Does P E fr S β a w nm o (effMapDel S.h (evo S x') (evo S k')) := by
  have h1 := sim_evo s hx
  have h2 := sim_evo s hk
  generalize evo S x' = ax at *
  generalize evo S k' = ak at *
  obtain ⟨kt, ht1, ht2⟩ := strMap_some ht
  unfold effMapDel at side ⊢
  split at side
  · rename_i b str
    have e2 := h2.v_inv
    obtain ⟨g, hb, e1⟩ := h1.mapv_inv
    show Does P E fr S β a w nm o (mapDelB b str (S.h b))
    cases hB : S.h b with
    | none => rw [hB] at side; exact side.elim
    | some y => cases y with
      | map ks vs =>
        obtain ⟨g', f, hg', ⟨es, clock, hm, hsz, hes⟩, hvl, hval⟩ := s.bl b _ hB
        rw [hb] at hg'
        simp at hg'
        subst hg'
        have hfind := MapAt.find hsz hes str
        have hck : (Instr.checkKey es.isEmpty 10000 kt (.string str)).run P w = .ok () w := run_checkKey (n := 9999) ht2 (by simp [IsKey]) _
        have hset := fun o' => heap_set (w := w) (o' := o') hm
        simp only [mapDelB]
        cases hix : mapIx ks str with
        | none =>
          rw [hix] at hfind
          refine does_writeV (g := g) (old := .map ks vs) (new := .map ks vs) (c := .tuple #[]) (w' := { w with heap := w.heap.setIfInBounds g (.map es clock) }) s hd hB (by rw [hb]; rfl) ?_ (grown_set _ _ _) (fun st hst => ?_) (fun st => .pure (.tup [] [] rfl (fun j hj => by simp at hj))) rfl
          · simp [execOp, ho, e1, e2, resolve, invoke, builtin, Builtin.delete_, run_underlying ht1, MapKept.run_getObj_map hm, hck, run_findKey ht2 hfind, run_setObj_map _ hm]
          · exact ⟨g, f, hb, ⟨_, _, (hset _).1, hsz, hes⟩, hvl, fun i hi => (hval i hi).mono hst⟩
        | some i =>
          rw [hix] at hfind
          have hil := mapIx_lt hix
          refine does_writeV (g := g) (old := .map ks vs) (new := .map (ks.eraseIdx i) (vs.eraseIdx i)) (c := .tuple #[]) (w' := { w with heap := w.heap.setIfInBounds g (.map (es.eraseIdxIfInBounds i) clock) }) s hd hB (by rw [hb]; rfl) ?_ (grown_set _ _ _) (fun st hst => ?_) (fun st => .pure (.tup [] [] rfl (fun j hj => by simp at hj))) rfl
          · simp [execOp, ho, e1, e2, resolve, invoke, builtin, Builtin.delete_, run_underlying ht1, MapKept.run_getObj_map hm, hck, run_findKey ht2 hfind, run_setObj_map _ hm]
          · have hkl : (ks.eraseIdx i).length = ks.length - 1 := List.length_eraseIdx_of_lt hil
            refine ⟨g, fun j => if j < i then f j else f (j + 1), hb, ⟨_, _, (hset _).1, ?_, fun j hj => ?_⟩, ?_, fun j hj => ?_⟩
            · rw [hkl]
              unfold Array.eraseIdxIfInBounds
              rw [dif_pos (by omega)]
              simp [hsz]
            · rw [hkl] at hj
              dsimp only
              have he : (es.eraseIdxIfInBounds i)[j]? = if j < i then es[j]? else es[j + 1]? := by
                unfold Array.eraseIdxIfInBounds
                rw [dif_pos (by omega), Array.getElem?_eraseIdx]
              rw [he, getD_erase]
              by_cases hji : j < i
              · rw [if_pos hji, if_pos hji, if_pos hji]; exact hes j (by omega)
              · rw [if_neg hji, if_neg hji, if_neg hji]; exact hes (j + 1) (by omega)
            · rw [hkl, List.length_eraseIdx_of_lt (by omega), hvl]
            · rw [hkl] at hj
              show PureV st _ (av (vs.eraseIdx i) j) (if j < i then f j else f (j + 1))
              unfold av
              rw [getD_erase]
              by_cases hji : j < i
              · rw [if_pos hji, if_pos hji]; exact (hval j (by omega)).mono hst
              · rw [if_neg hji, if_neg hji]; exact (hval (j + 1) (by omega)).mono hst
      | _ => rw [hB] at side; exact side.elim
  · exact side.elim
end does
end Go.Ab
