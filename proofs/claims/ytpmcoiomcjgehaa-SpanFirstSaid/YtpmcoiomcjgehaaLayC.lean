import Derived.Test.YtpmcoiomcjgehaaLayB
import Derived.Shelf.SlicesE.Clone
import Derived.Shelf.SlSortCmp.NoneTotal
import Derived.Shelf.Spec.SlicesGrow
section
set_option linter.unusedVariables false
set_option linter.unusedSimpArgs false
namespace Go.Ab
open Go.Shelf Go.RowKit Go.Lib Go.Proofs
variable {P : Program} {ρ : Ren}

set_option maxHeartbeats 2000000 in
set_option maxRecDepth 100000 in
theorem clone_zero (L : SlLaysE0.n41 P ρ) (i0 : TypeInfo) (z : Value) (size bytes : Nat) (hi : P.info? (ρ.t 23) = some i0) (hz0 : i0.zero = some z) (hz1 : i0.size = size) (hz2 : i0.bytes = bytes) (hzs : z.cells.size = size) (hsz : 0 < size)
    (z23 : ∀ w, (Go.sizeOf (ρ.t 23)).run P w = .ok size w) (a : Addr) (c : Nat) (w : World) :
    Calls P (ρ.f 41) #[.slice (some a) 0 c] w fun e w' => ∃ v', e = .returned v' ∧ w'.ownsRow w.heap.size (ρ.t 23) size v' 0 [] ∧ Below w.heap.size w w' := by
  have mixed := L.mixed; have t4 := L.t4; have a4 := L.a4; have z4 := L.z4; have v4 := L.v4; have t22 := L.t22; have a22 := L.a22; have z22 := L.z22; have v22 := L.v22
  have q22 : ∀ (w : World) (a : Option Addr) (n c n' c' : Nat), (binOp .eql (ρ.t 22) (.slice a n c) (.slice none n' c')).run P w = .ok (.bool a.isNone) w := fun w a n c n' c' => Lib.run_eql_slice_nil w _ _ a n c n' c' L.t22
  have u22 : ∀ w, Sem.run P (underlying (ρ.t 22)) w = .ok (TypeDesc.slice (ρ.t 23)) w := run_underlying t22
  obtain ⟨_, _, FG⟩ := L.f41
  go_enter FG, SlBodyN.n41_ntmps ρ
  go_wp2_with (at_builtin; refine wpList_append_own _ rfl _ _ (ρ.t 22) rfl w.heap.size (ρ.t 23) i0 z size bytes t22 hi hz0 hz1 hz2 hzs hsz _ _ _ rfl (World.ownsRow_made w #[] 0 (Nat.le_refl _) (Nat.zero_le _) (by simp)) a 0 c [] rfl ?qc1 ?qc2 ?qc3 ?qc4 ?qc5 ?qc6 ?_)
  case qc1 => simp
  case qc2 => intro j u hj; simp at hj
  case qc3 => intro u hu; cases hu
  case qc4 => unfold maxLen; omega
  case qc5 => omega
  case qc6 => simp
  intro v' w1 hown hgrow hnil
  go_wp2
  go_ret
  refine ⟨v', rfl, by simpa using hown, ?_⟩
  exact ((Below.refl _ w).alloc (Nat.le_refl _) _).grown hgrow (by simp) (by intro k hk; simp [Value.ownBlock] at hk; omega)

theorem getD_flat (es : List (List AV)) (f : Nat → Nat → Value) (sz n : Nat) (hn : n = es.length) (i j : Nat) (hi : i < n) (hj : j < sz) :
    cv ((List.range (n * sz)).map fun k => f (k / sz) (k % sz)) (i * sz + j) = f i j := by
  have h1 : i * sz + j < n * sz := by
    calc i * sz + j < i * sz + sz := by omega
      _ = (i + 1) * sz := by rw [Nat.add_mul]; omega
      _ ≤ n * sz := Nat.mul_le_mul_right _ (by omega)
  have h2 : (i * sz + j) / sz = i := by rw [Nat.add_comm, Nat.add_mul_div_right _ _ (by omega), Nat.div_eq_of_lt hj, Nat.zero_add]
  have h3 : (i * sz + j) % sz = j := by rw [Nat.add_comm, Nat.add_mul_mod_self_right, Nat.mod_eq_of_lt hj]
  simp [cv, List.getD_eq_getElem?_getD, h1, h2, h3]

theorem clone_of (L : SlLaysE0.n41 P ρ) (hcall : Callable P (ρ.f 41)) (i0 : TypeInfo) (z : Value) (size bytes : Nat) (hi : P.info? (ρ.t 23) = some i0) (hz0 : i0.zero = some z) (hz1 : i0.size = size) (hz2 : i0.bytes = bytes) (hzs : z.cells.size = size) (hsz : 0 < size)
    (z23 : ∀ w, (Go.sizeOf (ρ.t 23)).run P w = .ok size w) (es : List (List AV)) (hes : ∀ x ∈ es, x.length = size) (hbig : es.length * bytes ≤ 140737488355328) : PureOwn P (ρ.f 41) [.sl es] es size (ρ.t 23) := by
  refine ⟨hcall, fun ok w cs ⟨hlen, hv⟩ => ?_⟩
  match cs, hlen with
  | [c], _ =>
  have h1 := hv 0 (by simp)
  simp only [av_zero, cv, List.getD_cons_zero] at h1
  have tail : ∀ w' v' news, w'.ownsRow w.heap.size (ρ.t 23) size v' es.length news → Below w.heap.size w w' → (∀ u ∈ news, u.oneCell' = true) → (∀ i j, i < es.length → j < size → PureV (fun g => g < w.heap.size ∧ ok g) w (av (es.getD i []) j) (cv news (i * size + j))) →
      ∃ c, Ending.returned v' = .returned c ∧ Keeps w w' ∧ (∃ a n cap, c = .slice a n cap) ∧ (∃ xs, RowFits (fun g => g < w'.heap.size ∧ (ok g ∨ w.heap.size ≤ g) ∧ blkOf c ≠ some g) w' es size (ρ.t 23) c xs) ∧ ∀ g, blkOf c = some g → w.heap.size ≤ g := by
    intro w' v' news ho hb hone hp
    have hblk : ∀ g, blkOf v' = some g → w.heap.size ≤ g := by
      intro g hg
      rcases ho.2 with ⟨h, _⟩ | ⟨g', cap, cur, h, hge, _⟩
      · rw [h] at hg; simp [blkOf] at hg
      · rw [h] at hg
        simp only [blkOf] at hg
        split at hg
        · cases hg
        · simp only [Option.some.injEq] at hg; omega
    refine ⟨v', rfl, ⟨hb.os, hb.tape, hb.output, hb.size, hb.block⟩, ?_, ⟨news, hes, hsz, RowRep.of_owns ho, hone, fun i j hi hj => (hp i j hi hj).mono fun g hg => ⟨⟨Nat.lt_of_lt_of_le hg.1 hb.size, .inl hg.2, fun e => ?_⟩, hb.block g hg.1⟩⟩, hblk⟩
    · rcases ho.2 with ⟨h, _⟩ | ⟨g, cap, cur, h, _⟩
      · exact ⟨_, _, _, h⟩
      · exact ⟨_, _, _, h⟩
    · have := hblk g e; omega
  cases h1 with
  | slE a cap hc =>
    cases a with
    | none =>
      refine (AnyE.slices_Clone_nil L 0 cap w).mono fun e w' ⟨he, hw⟩ => ?_
      subst he; subst hw
      exact tail w' _ [] ⟨by simp, .inl ⟨rfl, rfl⟩⟩ (Below.refl _ _) (by simp) (fun i j hi => by simp at hi)
    | some a =>
      refine (clone_zero L i0 z size bytes hi hz0 hz1 hz2 hzs hsz z23 a cap w).mono fun e w' ⟨v', he, ho, hb⟩ => ?_
      subst he
      exact tail w' v' [] ho hb (by simp) (fun i j hi => by simp at hi)
  | slC _ g off cap sz f hc hm h0 hne hz hst hcell hr =>
    have hsz' : sz = size := by
      obtain ⟨x, hx⟩ := List.exists_mem_of_ne_nil _ hne
      exact (hz x hx).symm.trans (hes x hx)
    subst hsz'
    have hat := getD_flat es f sz es.length rfl
    have dm : ∀ k, k < es.length * sz → k / sz < es.length ∧ k % sz < sz := fun k hk => ⟨(Nat.div_lt_iff_lt_mul hsz).2 hk, Nat.mod_lt _ hsz⟩
    refine (AnyE.slices_Clone L i0 z sz bytes hi hz0 hz1 hz2 hzs hsz z23 g off es.length cap ((List.range (es.length * sz)).map fun k => f (k / sz) (k % sz)) w (by simp) (by omega) hbig (fun j u hj => ?_) (fun u hu => ?_)).mono fun e w' ⟨v', he, ho, _, hb⟩ => ?_
    · rw [List.getElem?_map] at hj
      by_cases hjl : j < es.length * sz
      · rw [List.getElem?_range hjl] at hj
        simp only [Option.map_some, Option.some.injEq] at hj
        subst hj
        obtain ⟨d1, d2⟩ := dm j hjl
        have := (hcell (j / sz) (j % sz) d1 d2).1
        rwa [show j / sz * sz + j % sz = j by rw [Nat.mul_comm]; exact Nat.div_add_mod j sz] at this
      · rw [List.getElem?_eq_none (by simpa using hjl)] at hj
        simp at hj
    · simp only [List.mem_map, List.mem_range] at hu
      obtain ⟨k, hk, rfl⟩ := hu
      obtain ⟨d1, d2⟩ := dm k hk
      exact (hcell _ _ d1 d2).2
    · subst he
      refine tail w' v' _ ho hb (fun u hu => ?_) (fun i j hi hj => ?_)
      · simp only [List.mem_map, List.mem_range] at hu
        obtain ⟨k, hk, rfl⟩ := hu
        obtain ⟨d1, d2⟩ := dm k hk
        exact (hcell _ _ d1 d2).2
      · rw [hat i j hi hj]
        exact hr i j hi hj
end Go.Ab
end
section
set_option linter.unusedVariables false
set_option linter.unusedSimpArgs false
namespace Go.Ab
open Go.Shelf Go.RowKit Go.Lib Go.Proofs Go.Sort
set_option linter.unusedSimpArgs false
set_option linter.unusedVariables false
def prs (l : List (Int × Int)) : List (List AV) := l.map fun x => [.v (.int .i64 x.1), .v (.int .i64 x.2)]
theorem prs_len (l : List (Int × Int)) : (prs l).length = l.length := by simp [prs]
theorem prs_append (l t : List (Int × Int)) : prs (l ++ t) = prs l ++ prs t := by simp [prs]
def encP (x : Int × Int) : List Value := [.int .i64 x.1, .int .i64 x.2]
def pc (l : List (Int × Int)) (j : Nat) : Int := if j % 2 = 0 then (l.getD (j / 2) (0, 0)).1 else (l.getD (j / 2) (0, 0)).2
def flatP (l : List (Int × Int)) : List Value := (List.range (l.length * 2)).map fun j => Value.int .i64 (pc l j)
theorem flatP_len (l : List (Int × Int)) : (flatP l).length = l.length * 2 := by simp [flatP]
theorem flatP_get (l : List (Int × Int)) (j : Nat) (h : j < l.length * 2) : cv (flatP l) j = .int .i64 (pc l j) := by
  simp [cv, flatP, List.getD_eq_getElem?_getD, h]
theorem prs_cell (l : List (Int × Int)) (i j : Nat) (hi : i < l.length) (hj : j < 2) : av ((prs l).getD i []) j = .v (.int .i64 (pc l (i * 2 + j))) := by
  have e1 : (i * 2 + j) / 2 = i := by omega
  have e2 : (i * 2 + j) % 2 = j := by omega
  unfold pc
  rw [e1, e2]
  have e3 : (prs l).getD i [] = [.v (.int .i64 (l.getD i (0, 0)).1), .v (.int .i64 (l.getD i (0, 0)).2)] := by
    simp [prs, List.getD_eq_getElem?_getD, hi]
  rw [e3]
  match j, hj with
  | 0, _ => rfl
  | 1, _ => rfl
theorem fits_prs {st : Nat → Prop} {w : World} {l : List (Int × Int)} {e : TypeId} {c : Value} {xs : List Value} (h : RowFits st w (prs l) 2 e c xs) : xs = flatP l := by
  have hlen : xs.length = l.length * 2 := by rw [h.row.len, prs_len]
  apply List.ext_getElem (by rw [flatP_len]; exact hlen)
  intro j h1 h2
  have h3 := h.cell (j / 2) (j % 2) (by rw [prs_len]; omega) (by omega)
  rw [prs_cell l (j / 2) (j % 2) (by omega) (by omega), show j / 2 * 2 + j % 2 = j by omega] at h3
  have e1 : cv xs j = xs[j] := by simp [cv, List.getD_eq_getElem?_getD, List.getElem?_eq_getElem h1]
  have e2 : (flatP l)[j] = .int .i64 (pc l j) := by simp [flatP]
  rw [e2, ← e1]
  generalize cv xs j = q at h3 ⊢
  cases h3
  rfl
theorem prs_fits {st : Nat → Prop} {w : World} {l : List (Int × Int)} {e : TypeId} {c : Value} (h : RowRep w e 2 c l.length (flatP l)) : RowFits st w (prs l) 2 e c (flatP l) := by
  refine ⟨by intro y hy; obtain ⟨x, _, rfl⟩ := List.mem_map.1 hy; rfl, by omega, by rw [prs_len]; exact h, by simp [flatP, Value.oneCell'], fun i j hi hj => ?_⟩
  rw [prs_len] at hi
  rw [prs_cell l i j hi hj, flatP_get l (i * 2 + j) (by omega)]
  exact .v _
def sortP (cf : Int × Int → Int × Int → Int) (l : List (Int × Int)) : List (Int × Int) := (pdq (ltOf cf) l.toArray 0 l.toArray.size (Lib.bitLen l.toArray.size) true true).toList
theorem sortP_spec (cf : Int × Int → Int × Int → Int) (hO : SWO (ltOf cf)) (l : List (Int × Int)) : (sortP cf l).Perm l ∧ (sortP cf l).Pairwise fun x y => ltOf cf y x = false := by
  have h := pdq_sorts (ltOf cf) hO l.toArray 0 l.toArray.size (Lib.bitLen l.toArray.size) true true (Nat.zero_le _) (Nat.le_refl _) (Or.inl rfl)
  obtain ⟨⟨h1, _, h2⟩, h3⟩ := h
  unfold sortP
  generalize pdq (ltOf cf) l.toArray 0 l.toArray.size (Lib.bitLen l.toArray.size) true true = d at *
  have e1 : (d.extract 0 l.toArray.size).toList = d.toList := by rw [← h1]; simp
  have e2 : (l.toArray.extract 0 l.toArray.size).toList = l := by simp
  rw [e1, e2] at h2
  refine ⟨h2, List.pairwise_iff_getElem.2 fun i j hi hj hij => ?_⟩
  have := h3 i j (Nat.zero_le _) hij (by rw [← h1]; simpa using hj)
  rw [getElem!_pos d j (by simpa using hj), getElem!_pos d i (by simpa using hi)] at this
  simpa using this
theorem sortP_len (cf : Int × Int → Int × Int → Int) (hO : SWO (ltOf cf)) (l : List (Int × Int)) : (sortP cf l).length = l.length := (sortP_spec cf hO l).1.length_eq
theorem flatK_get (l : List (Int × Int)) (j : Nat) (h : j < l.length * 2) : (flatK encP 2 l.toArray)[j]! = .int .i64 (pc l j) := by
  rw [get_flatK encP 2 l.toArray j (by simpa using h)]
  have hi : j / 2 < l.length := by omega
  have e1 : l.toArray[j / 2]! = l.getD (j / 2) (0, 0) := by
    rw [getElem!_pos l.toArray _ (by simpa using hi)]
    simp [List.getD_eq_getElem?_getD, hi]
  rw [e1]
  unfold pc encP
  rcases Nat.mod_two_eq_zero_or_one j with h2 | h2 <;> rw [h2] <;> rfl
theorem heap_sortP {w : World} {g n : Nat} {os : Array Obj} {cur : Array Value} {e : TypeId} {fr : Nat × Nat} (F : Array Value) (hb : w.heap[g]? = some (.cells cur e fr)) :
    (grow (putRow id (Sort.ahead w n) g 0 F) os).heap[g]? = some (.cells (putCells id 0 F cur) e fr) := by
  have hg : g < w.heap.size := (Array.getElem?_eq_some_iff.1 hb).1
  rw [heap_grow_old _ _ (by simpa using hg)]
  simp [putRow, mapBlock, Sort.ahead, Array.getElem?_modify, hb, onCells]
theorem grownBy_sortP {w : World} {g n : Nat} {os : Array Obj} (F : Array Value) : w.grownBy (grow (putRow id (Sort.ahead w n) g 0 F) os) (some g) := by
  refine ⟨rfl, rfl, rfl, by simp, fun k hk hne => ?_⟩
  rw [heap_grow_old _ _ (by simpa using hk)]
  have : g ≠ k := fun e => hne (by rw [e])
  simp [putRow, mapBlock, Sort.ahead, Array.getElem?_modify, this]
theorem sortF_cc {P : Program} {ρ : Ren} (L : SlLaysF0.n6 P ρ) (aE : ∀ w, (isAgg (ρ.t 24)).run P w = .ok true w) (zE : ∀ w, (Go.sizeOf (ρ.t 24)).run P w = .ok 2 w) (hcall : Callable P (ρ.f 6)) (cf : Int × Int → Int × Int → Int) (hO : SWO (ltOf cf)) (g : Nat)
    (eg : ∀ args w, (callFunc g args).run P w = .ok (.enter g args) w)
    (hcmp : ∀ (x y : Int × Int) (W : World), Calls P g #[.agg #[.int .i64 x.1, .int .i64 x.2], .agg #[.int .i64 y.1, .int .i64 y.2]] W fun e w' => e = .returned (.int .i64 (cf x y)) ∧ ∃ q os', w' = grow (W.drewN q) os')
    (l t : List (Int × Int)) (b nm : Nat) (e : TypeId) (hl : l.length < 1000000) : CallC P (ρ.f 6) [.pre b l.length, .fn g []] [(b, .row (prs (l ++ t)) 2 e)] nm (.tup []) [(b, some (.row (prs (sortP cf l ++ t)) 2 e))] := by
  refine ⟨hcall, fun prov β w cs hn hb hi hv => ?_⟩
  have hlk : ∀ n, updL (listH [(b, Blk.row (prs (l ++ t)) 2 e)]) [(b, some (Blk.row (prs (sortP cf l ++ t)) 2 e))] n = if n = b then some (.row (prs (sortP cf l ++ t)) 2 e) else none := by
    intro n; simp only [updL, upd, listH]; split <;> simp
  have hB := hb b (.row (prs (l ++ t)) 2 e) (by simp [listH])
  obtain ⟨xs, hf⟩ := hB
  obtain rfl := fits_prs hf
  obtain ⟨hlen, hv⟩ := hv
  match cs, hlen with
  | [c, c2], _ =>
  have h1 := hv 0 (by simp)
  have h2 := hv 1 (by simp)
  simp only [av_zero, cv, List.getD_cons_zero] at h1
  obtain ⟨ad, n, cap, cap', hβ, rfl, hk, hm⟩ := h1.pre_inv
  obtain ⟨ys, hc2, hy, _⟩ := SimV.fn_inv (f := g) (cs := []) h2
  have hys : ys = [] := List.eq_nil_of_length_eq_zero (by simpa using hy.symm)
  subst hys
  have hc2 : c2 = .func (.func g) #[] #[] := hc2
  subst hc2
  have hsl := sortP_len cf hO l
  have tail : ∀ w', w.grownBy w' (blkOf (β b)) → RowRep w' e 2 (β b) (sortP cf l ++ t).length (flatP (sortP cf l ++ t)) →
      ∃ c β', Ending.returned (Value.tuple #[]) = .returned c ∧ w'.os = w.os ∧ w'.tape = w.tape ∧ w'.output = w.output ∧ w.heap.size ≤ w'.heap.size ∧ Grows β β' ∧ (∀ n, n ≠ nm → β' n = β n) ∧
      (∀ g, g < w.heap.size → (∀ n b', listH [(b, Blk.row (prs (l ++ t)) 2 e)] n = some b' → n ∈ [(b, some (Blk.row (prs (sortP cf l ++ t)) 2 e))].map (·.1) → blkOf (β n) ≠ some g) → w'.heap[g]? = w.heap[g]?) ∧
      SimV (stb (fun g => prov g ∨ w.heap.size ≤ g) w' β' (updL (listH [(b, Blk.row (prs (l ++ t)) 2 e)]) [(b, some (Blk.row (prs (sortP cf l ++ t)) 2 e))])) β' w' (.tup []) c ∧
      (∀ n b', updL (listH [(b, Blk.row (prs (l ++ t)) 2 e)]) [(b, some (Blk.row (prs (sortP cf l ++ t)) 2 e))] n = some b' → n ∈ [(b, some (Blk.row (prs (sortP cf l ++ t)) 2 e))].map (·.1) → BlkRep (stb (fun g => prov g ∨ w.heap.size ≤ g) w' β' (updL (listH [(b, Blk.row (prs (l ++ t)) 2 e)]) [(b, some (Blk.row (prs (sortP cf l ++ t)) 2 e))])) β' w' b' (β' n) ∧
        ∀ g, blkOf (β' n) = some g → w.heap.size ≤ g ∨ ∃ m b', listH [(b, Blk.row (prs (l ++ t)) 2 e)] m = some b' ∧ m ∈ [(b, some (Blk.row (prs (sortP cf l ++ t)) 2 e))].map (·.1) ∧ blkOf (β m) = some g) ∧
      Inj β' (updL (listH [(b, Blk.row (prs (l ++ t)) 2 e)]) [(b, some (Blk.row (prs (sortP cf l ++ t)) 2 e))]) := by
    intro w' hg hr
    refine ⟨_, β, rfl, hg.os, hg.tape, hg.output, hg.size, Grows.refl _, fun _ _ => rfl, fun g hgl hno => ?_, .pure (.tup [] [] rfl (fun j hj => by simp at hj)), fun n b' hb' _ => ?_, ?_⟩
    · exact hg.block g hgl (fun e' => hno b (.row (prs (l ++ t)) 2 e) (by simp [listH]) (by simp) e'.symm)
    · rw [hlk] at hb'
      split at hb'
      · rename_i hnb; subst hnb
        simp at hb'; subst hb'
        exact ⟨⟨_, prs_fits hr⟩, fun g hgb => .inr ⟨n, .row (prs (l ++ t)) 2 e, by simp [listH], by simp, hgb⟩⟩
      · cases hb'
    · intro n m b1 b2 g h1 h2 _ _
      rw [hlk] at h1 h2
      split at h1
      · split at h2
        · simp_all
        · cases h2
      · cases h1
  rw [hβ] at hf
  obtain ⟨hnl, hnc, hcm, hpos⟩ := row_cap hf
  rw [prs_len] at hnl
  by_cases hl0 : l = []
  · subst hl0
    have hs0 : sortP cf [] = [] := List.eq_nil_of_length_eq_zero hsl
    refine (AnyF.slices_SortFunc_none L ad cap' (.func (.func g) #[] #[]) w).mono fun e' w' ⟨he, hw⟩ => ?_
    subst he; subst hw
    refine tail w' ⟨rfl, rfl, rfl, Nat.le_refl _, fun _ _ _ => rfl⟩ ?_
    rw [hs0]
    have := hf.row
    rw [prs_len] at this
    rw [hβ]
    exact this
  · have hlp : 0 < l.length := List.length_pos_iff.2 hl0
    obtain ⟨gb, cur, rfl, hg, hcur, htk⟩ := hpos (by rw [hnl]; simp; omega)
    have hlt : gb < w.heap.size := (Array.getElem?_eq_some_iff.1 hg).1
    rw [prs_len] at htk
    have hla : (l ++ t).length = l.length + t.length := by simp
    have hcs : (l ++ t).length * 2 ≤ cur.size := by rw [hcur]; exact Nat.mul_le_mul_right _ (by omega)
    have hcell : ∀ j, j < (l ++ t).length * 2 → cur[j]? = some (.int .i64 (pc (l ++ t) j)) := by
      intro j hj
      have h3 : (cur.toList.take ((l ++ t).length * 2))[j]? = (flatP (l ++ t))[j]? := by rw [htk]
      rw [List.getElem?_take_of_lt hj] at h3
      rw [← Array.getElem?_toList, h3]
      unfold flatP
      rw [List.getElem?_map, List.getElem?_range hj]
      rfl
    have pl : ∀ j, j < l.length * 2 → pc (l ++ t) j = pc l j := by
      intro j hj
      unfold pc
      have : (l ++ t).getD (j / 2) (0, 0) = l.getD (j / 2) (0, 0) := by
        simp only [List.getD_eq_getElem?_getD]
        rw [List.getElem?_append_left (by omega)]
      rw [this]
    have pr : ∀ j, l.length * 2 ≤ j → pc (sortP cf l ++ t) j = pc (l ++ t) j := by
      intro j hj
      unfold pc
      have : (sortP cf l ++ t).getD (j / 2) (0, 0) = (l ++ t).getD (j / 2) (0, 0) := by
        simp only [List.getD_eq_getElem?_getD]
        rw [List.getElem?_append_right (by omega), List.getElem?_append_right (by omega), hsl]
      rw [this]
    have pl2 : ∀ j, j < l.length * 2 → pc (sortP cf l ++ t) j = pc (sortP cf l) j := by
      intro j hj
      unfold pc
      have : (sortP cf l ++ t).getD (j / 2) (0, 0) = (sortP cf l).getD (j / 2) (0, 0) := by
        simp only [List.getD_eq_getElem?_getD]
        rw [List.getElem?_append_left (by omega)]
      rw [this]
    have hH : HoldsK encP 2 w gb 0 l.toArray := by
      intro j hj
      rw [size_flatK] at hj
      have hj : j < l.length * 2 := by simpa using hj
      refine ⟨?_, by simp [World.frozen?, hg]⟩
      rw [flatK_get l j hj]
      simp only [World.cell?, hg, Nat.zero_add, Option.isSome_none, Bool.false_eq_true, if_false, id]
      rw [hcell j (by omega), pl j hj]
    have key := AnyQ.slices_SortFunc_eq L 2 aE zE encP (fun _ => rfl) (fun x v hv => by simp [encP] at hv; rcases hv with rfl | rfl <;> rfl) cf hO g #[] gb 0 cap' l.toArray w eg (fun m os dk _ x y => hcmp x y _) hH hlt (by simp; omega)
    have es : l.toArray.size = l.length := by simp
    rw [es] at key
    refine key.mono fun e' w' ⟨he, q, os, hw⟩ => ?_
    subst he
    have hsp : (pdq (ltOf cf) l.toArray 0 l.length (Lib.bitLen l.length) true true) = (sortP cf l).toArray := by unfold sortP; simp
    rw [hsp] at hw
    subst hw
    have hbk : blkOf (β b) = some gb := by rw [hβ]; simp [blkOf]; omega
    refine tail _ ?_ ?_
    · rw [hbk]; exact grownBy_sortP _
    · have hla2 : (sortP cf l ++ t).length = n := by simp [hsl]; omega
      rw [hβ, hla2]
      refine .inr ⟨gb, cap, rfl, by omega, by rw [flatP_len, hla2], .inr ⟨gb, cap, _, rfl, Nat.zero_le _, heap_sortP _ hg, hnc, hcm, by simp [putCells, hcur], ?_⟩⟩
      apply List.ext_getElem?
      intro j
      by_cases hj : j < n * 2
      · rw [List.getElem?_take_of_lt hj, Array.getElem?_toList]
        have e1 : (flatP (sortP cf l ++ t))[j]? = some (.int .i64 (pc (sortP cf l ++ t) j)) := by
          unfold flatP
          rw [List.getElem?_map, List.getElem?_range (by rw [hla2]; exact hj)]
          rfl
        rw [e1]
        simp only [putCells, Array.getElem?_mapIdx, size_flatK, List.size_toArray, hsl, Nat.zero_le, Nat.zero_add, true_and, Nat.sub_zero, id]
        rw [hcell j (by rw [← hnl]; exact hj)]
        simp only [Option.map_some]
        by_cases h3 : j < l.length * 2
        · rw [if_pos h3, flatK_get _ j (by rw [hsl]; exact h3), pl2 j h3]
        · rw [if_neg h3, pr j (by omega)]
      · rw [List.getElem?_take_eq_none (by omega), List.getElem?_eq_none (by rw [flatP_len, hla2]; omega)]
end Go.Ab
end
section
set_option linter.unusedVariables false
set_option linter.unusedSimpArgs false
namespace Go.Ab
open Go.Shelf Go.RowKit Go.Lib Go.Proofs
set_option linter.unusedSimpArgs false
set_option maxRecDepth 10000
set_option linter.unusedVariables false
theorem grow_cc {P : Program} {ρ : Ren} (L : Lays8.n4 P ρ) (hcall : Callable P (ρ.f 4)) (i0 : TypeInfo) (z : Value) (hi0 : P.info? (ρ.t 25) = some i0) (hz0 : i0.zero = some z) (hs0 : 0 < i0.size) (hzs : z.cells.size = i0.size) (hb1 : i0.bytes ≤ 1000)
    (n : Nat) (hn : n < 1000000) (nm : Nat) : CallC P (ρ.f 4) [.nils, .v (.int .i64 n)] [] nm (.own nm) [(nm, some (.row [] i0.size (ρ.t 25)))] := by
  refine ⟨hcall, fun prov β w cs hnm hb hi hv => ?_⟩
  obtain ⟨hlen, hv⟩ := hv
  match cs, hlen with
  | [c, c2], _ =>
  have h1 := hv 0 (by simp)
  have h2 := hv 1 (by simp)
  simp only [av_zero, cv, List.getD_cons_zero] at h1
  obtain ⟨a, rfl⟩ := SimV.nils_inv h1
  have hc2 : c2 = .int .i64 n := SimV.v_inv (x := .int .i64 n) h2
  subst hc2
  have hlk : ∀ k, updL (listH []) [(nm, some (Blk.row [] i0.size (ρ.t 25)))] k = if k = nm then some (.row [] i0.size (ρ.t 25)) else none := by
    intro k; simp only [updL, upd, listH]
  have hgr : ∀ c', Grows β (upd β nm c') := fun c' k hk => by
    unfold upd; split
    · rename_i h; subst h; exact absurd hnm hk
    · rfl
  have tail : ∀ w' ad cap, w.grownBy w' none → RowRep w' (ρ.t 25) i0.size (.slice ad 0 cap) 0 [] → (∀ g, blkOf (.slice ad 0 cap) = some g → w.heap.size ≤ g) →
      ∃ c β', Ending.returned (Value.slice ad 0 cap) = .returned c ∧ w'.os = w.os ∧ w'.tape = w.tape ∧ w'.output = w.output ∧ w.heap.size ≤ w'.heap.size ∧ Grows β β' ∧ (∀ n, n ≠ nm → β' n = β n) ∧
      (∀ g, g < w.heap.size → (∀ n b', listH [] n = some b' → n ∈ [(nm, some (Blk.row [] i0.size (ρ.t 25)))].map (·.1) → blkOf (β n) ≠ some g) → w'.heap[g]? = w.heap[g]?) ∧
      SimV (stb (fun g => prov g ∨ w.heap.size ≤ g) w' β' (updL (listH []) [(nm, some (Blk.row [] i0.size (ρ.t 25)))])) β' w' (.own nm) c ∧
      (∀ n b', updL (listH []) [(nm, some (Blk.row [] i0.size (ρ.t 25)))] n = some b' → n ∈ [(nm, some (Blk.row [] i0.size (ρ.t 25)))].map (·.1) → BlkRep (stb (fun g => prov g ∨ w.heap.size ≤ g) w' β' (updL (listH []) [(nm, some (Blk.row [] i0.size (ρ.t 25)))])) β' w' b' (β' n) ∧
        ∀ g, blkOf (β' n) = some g → w.heap.size ≤ g ∨ ∃ m b', listH [] m = some b' ∧ m ∈ [(nm, some (Blk.row [] i0.size (ρ.t 25)))].map (·.1) ∧ blkOf (β m) = some g) ∧
      Inj β' (updL (listH []) [(nm, some (Blk.row [] i0.size (ρ.t 25)))]) := by
    intro w' ad cap hg hr hnew
    refine ⟨_, upd β nm (.slice ad 0 cap), rfl, hg.os, hg.tape, hg.output, hg.size, hgr _, fun k hne => by simp [upd, hne], fun g hgl _ => hg.block g hgl (by simp), .own nm (by simp [upd]), fun k b' hb' _ => ?_, ?_⟩
    · rw [hlk] at hb'
      split at hb'
      · rename_i hk; subst hk
        simp only [Option.some.injEq] at hb'; subst hb'
        have hu : upd β k (Value.slice ad 0 cap) k = .slice ad 0 cap := by simp [upd]
        rw [hu]
        exact ⟨⟨[], by simp, hs0, hr, by simp, fun i j hi => by simp at hi⟩, fun g hgb => .inl (hnew g hgb)⟩
      · cases hb'
    · intro k m b1 b2 g h1 h2 _ _
      rw [hlk] at h1 h2
      split at h1
      · split at h2
        · simp_all
        · cases h2
      · cases h1
  by_cases h0 : n = 0
  · subst h0
    refine (Any8.slices_Grow_room L a 0 0 0 w (by omega) (by omega) (by omega) (by omega)).mono fun e w' ⟨he, hw⟩ => ?_
    subst he; subst hw
    exact tail w' a 0 ⟨rfl, rfl, rfl, Nat.le_refl _, fun _ _ _ => rfl⟩ (.inl ⟨a, rfl, rfl, rfl⟩) (fun g hg => by cases a <;> simp [blkOf] at hg)
  · have hbig : (0 + n) * i0.bytes ≤ 140737488355328 := by
      rw [Nat.zero_add]
      exact Nat.le_trans (Nat.mul_le_mul (Nat.le_of_lt hn) hb1) (by omega)
    refine (Any8.slices_Grow_grow L i0 z hi0 hz0 hs0 a 0 0 n [] w (by omega) (by omega) hbig (by omega) (by rw [Nat.zero_mul]; rfl) (fun _ => rfl) (fun b _ j v hj => by rw [List.getElem?_nil] at hj; cases hj)).mono fun e w' ⟨he, hw⟩ => ?_
    subst he; subst hw
    have hcap := grownCap_ge w (0 + n) 0 (ρ.t 25)
    have hcm := grownCap_le_maxLen w (0 + n) 0 (ρ.t 25) (by unfold maxLen; omega)
    refine tail _ _ _ ?_ ?_ ?_
    · refine ⟨rfl, rfl, rfl, ?_, fun k hk _ => ?_⟩
      · show w.heap.size ≤ (w.heap.push _).size
        rw [Array.size_push]; omega
      · show (w.heap.push _)[k]? = w.heap[k]?
        rw [Array.getElem?_push, if_neg (by omega)]
    · refine RowRep.of_owns (base := 0) (And.intro (by simp) (Or.inr ⟨w.heap.size, grownCap w (0 + n) 0 (ρ.t 25), #[] ++ Builtin.zeroCells z.cells (0 + n - 0) ++ Builtin.zeroCells z.cells (grownCap w (0 + n) 0 (ρ.t 25) - (0 + n)), rfl, Nat.zero_le _, ?_, Nat.zero_le _, hcm, ?_, by simp⟩))
      · show (w.heap.push _)[w.heap.size]? = _
        rw [Array.getElem?_push, if_pos rfl]
      · have h1 := zero_len z.cells (0 + n - 0)
        have h2 := zero_len z.cells (grownCap w (0 + n) 0 (ρ.t 25) - (0 + n))
        simp only [Array.length_toList] at h1 h2
        simp only [Array.size_append, List.size_toArray, List.length_nil, h1, h2, hzs]
        rw [Nat.zero_add, ← Nat.add_mul]
        congr 1
        omega
    · intro g hg
      simp only [blkOf] at hg
      split at hg
      · cases hg
      · simp at hg; omega
end Go.Ab
end
