import Derived.Test.YtadpljebgkfeoaaGreatDoorPZA
import Derived.Tactics
import Derived.Test.YtadpljebgkfeoaaGreatDoorChecked
set_option linter.unusedVariables false
set_option linter.unusedSimpArgs false
namespace Go.Ab
open Go.RowKit

/-- The element sizes in bytes that an append is compiled for. -/
theorem op_sound {P : Program} {E : Entry} {fr : Nat → Prop} {S : AState} {β : Nat → Value} {a : Act} {w : World} {nm : Nat} {o : Oper} {x : AOp} {an : Ans}
    (hc : compOp P o.op = some x) (s : Sim E fr S β a w) (hf : fr nm) (hd : ∀ d, o.dst = some d → d < a.tmps.size) (side : (x.eff P nm S an).side) : Does P E fr S β a w nm o (x.eff P nm S an) := by
  cases ho : o.op with
  | move y =>
    simp only [ho, compOp, Option.map_eq_some_iff] at hc
    obtain ⟨z, hz, rfl⟩ := hc
    exact does_mv s hd (.inl ho) hz
  | assign y =>
    simp only [ho, compOp, Option.map_eq_some_iff] at hc
    obtain ⟨z, hz, rfl⟩ := hc
    exact does_mv s hd (.inr ho) hz
  | pick c y z =>
    simp only [ho, compOp] at hc
    cases h1 : compOpd c <;> cases h2 : compOpd y <;> cases h3 : compOpd z <;> simp [h1, h2, h3] at hc
    subst hc
    exact does_pick s hd ho h1 h2 h3 side
  | alloc e =>
    simp only [ho, compOp] at hc
    cases h1 : P.info? e with
    | none => simp [h1] at hc
    | some i => cases h2 : i.zero with
      | none => simp [h1, h2] at hc
      | some z =>
        simp only [h1, h2, Option.bind_some] at hc
        split at hc
        · simp at hc; subst hc; exact does_alloc s hf hd ho h1 h2 (by assumption)
        · cases hc
  | box e y =>
    simp only [ho, compOp, Option.map_eq_some_iff] at hc
    obtain ⟨z, hz, rfl⟩ := hc
    exact does_box s hf hd ho hz side
  | build t parts =>
    simp only [ho, compOp] at hc
    split at hc
    · rename_i i fs h1 h2
      split at hc
      · rename_i z places h3 h4
        split at hc
        · rename_i ps h5
          split at hc
          · simp at hc; subst hc
            exact does_build s hd ho (fun vs => by simp [Program.built, h1, h2, h3, h4]) h5 (by assumption) side
          · cases hc
        · cases hc
      · cases hc
    · rename_i i n e h1 h2
      split at hc
      · rename_i z ie h3 h4
        split at hc
        · rename_i ps h5
          split at hc
          · simp at hc; subst hc
            exact does_build s hd ho (fun vs => by simp [Program.built, h1, h2, h3, h4]) h5 (by assumption) side
          · cases hc
        · cases hc
      · cases hc
    · cases hc
  | buildSlice t len parts =>
    simp only [ho, compOp] at hc
    split at hc
    · rename_i e h1
      split at hc
      · rename_i i ps h2 h3
        split at hc
        · rename_i z h4
          split at hc
          · rename_i h5
            simp at hc; subst hc
            simp only [AOp.eff] at side ⊢
            cases hr : an.r with
            | nils =>
              rw [hr] at side
              exact does_buildFull s hf hd ho h1 h2 h4 h3 h5.1 h5.2.1 h5.2.2.1 h5.2.2.2 side
            | _ => rw [hr] at side; exact does_buildSlice s hf hd ho h1 h2 h4 h3 h5.1 h5.2.1 h5.2.2.1 h5.2.2.2 side
          · cases hc
        · cases hc
      · cases hc
    · cases hc
  | load t y =>
    simp only [ho, compOp] at hc
    split at hc
    · rename_i z i d h1 h2 h3
      split at hc
      · simp at hc; subst hc; exact does_load s hd ho h1 h2 h3 (by assumption) side
      · cases hc
    · cases hc
  | store t p y =>
    simp only [ho, compOp] at hc
    split at hc
    · rename_i p' y' i h1 h2 h3
      simp at hc; subst hc
      simp only [AOp.eff] at side ⊢
      cases hr : an.r with
      | nils =>
        rw [hr] at side
        exact does_storeX s hd ho h1 h2 h3 side
      | _ => rw [hr] at side; exact does_store s hd ho h1 h2 h3 side
    · cases hc
  | binOp op t y z u =>
    simp only [ho, compOp] at hc
    split at hc
    · rename_i y' z' h1 h2
      split at hc
      · simp at hc; subst hc; exact does_eqB (neg := false) s hd (by simpa using ho) h1 h2 (by assumption) side
      · simp at hc; subst hc; exact does_eqB (neg := true) s hd (by simpa using ho) h1 h2 (by assumption) side
      all_goals first
        | (simp at hc; done)
        | (simp at hc; subst hc; exact does_bin s hd ho h1 h2 side)
        | (split at hc
           · split at hc
             · simp at hc; subst hc; exact does_eqAgg (neg := false) s hd (by simpa using ho) h1 h2 (by assumption) (by assumption) (by assumption) side
             · cases hc
           · cases hc)
        | (split at hc
           · split at hc
             · simp at hc; subst hc; exact does_eqAgg (neg := true) s hd (by simpa using ho) h1 h2 (by assumption) (by assumption) (by assumption) side
             · cases hc
           · cases hc)
    · cases hc
  | unOp op t y =>
    simp only [ho, compOp, Option.map_eq_some_iff] at hc
    obtain ⟨z, hz, rfl⟩ := hc
    exact does_un s hd ho hz side
  | convert src dst y =>
    simp only [ho, compOp] at hc
    split at hc
    · simp at hc; subst hc; exact does_conv s hd ho (by assumption) (by assumption) (by assumption) side
    · cases hc
  | makeFunc fn first caps =>
    cases fn with
    | func f =>
      simp only [ho, compOp] at hc
      split at hc
      · rename_i h0
        simp only [Option.map_eq_some_iff] at hc
        obtain ⟨z, hz, rfl⟩ := hc
        have : first = #[] := by apply Array.ext'; exact List.eq_nil_of_length_eq_zero (by simpa using h0)
        subst this
        exact does_mkfn s hd ho hz
      · cases hc
    | _ => simp [ho, compOp] at hc
  | makeSlice t l c =>
    simp only [ho, compOp] at hc
    split at hc
    · rename_i e p q h1 h2 h3
      split at hc
      · rename_i hpq
        subst hpq
        split at hc
        · rename_i i h4
          split at hc
          · rename_i z h5
            split at hc
            · rename_i h6
              simp at hc; subst hc
              have hl : l = .tmp p := by cases l <;> simp_all [compOpd]
              have hcc : c = .tmp p := by cases c <;> simp_all [compOpd]
              subst hl; subst hcc
              exact does_make s hf hd ho h2 h1 h4 h5 h6.1 h6.2.1 h6.2.2 side
            · cases hc
          · cases hc
        · cases hc
      · cases hc
    · cases hc
  | slice t y lo hi mx =>
    simp only [ho, compOp] at hc
    split at hc
    · rename_i h1 h2 h3 h4
      split at hc
      · simp at hc; subst hc; exact does_sliceO s hd ho h2 h3 h4 h1 (by assumption) side
      · cases hc
    · rename_i e y' h1 h2 h3 h4
      split at hc
      · simp at hc; subst hc
        have hl : lo = none := by cases lo <;> simp_all [optOpd]
        have hh : hi = some (.const (.int .i64 0)) := by
          cases hi with
          | none => simp [optOpd] at h4
          | some q =>
            simp only [optOpd, Option.map_eq_some_iff] at h4
            obtain ⟨q', h5, h6⟩ := h4
            simp at h6; subst h6
            cases q <;> simp_all [compOpd]
        subst hl; subst hh
        exact does_slice0 s hd ho h2 h1 (by assumption) side
      · cases hc
    · simp at hc; subst hc; exact does_sliceStr s hd ho (by assumption) (by assumption) (by assumption) (by assumption) side
    · cases hc
  | fieldAddr t y f =>
    simp only [ho, compOp] at hc
    split at hc
    · split at hc
      · split at hc
        · split at hc
          · cases hc
          · simp at hc; subst hc; exact does_fieldAddr s hd ho (by assumption) (by assumption) (by assumption) (by assumption) (by assumption) side
        · cases hc
      · cases hc
    · cases hc
  | field t y f =>
    simp only [ho, compOp] at hc
    split at hc
    · split at hc
      · split at hc
        · split at hc
          · simp at hc; subst hc; exact does_field s hd ho (by assumption) (by assumption) (by assumption) (by assumption) (by assumption) (by assumption) side
          · cases hc
        · cases hc
      · cases hc
    · cases hc
  | indexAddr t y z =>
    simp only [ho, compOp] at hc
    split at hc
    · split at hc
      · simp at hc; subst hc; exact does_idxAddr s hd ho (by assumption) (by assumption) (by assumption) (by assumption) side
      · cases hc
    · split at hc
      · split at hc
        · rename_i h6
          simp at hc; subst hc; exact does_idxPtr s hd ho (by assumption) (by assumption) (by assumption) (by assumption) h6.2 side
        · cases hc
      · cases hc
    · cases hc
  | index t y z =>
    simp only [ho, compOp] at hc
    split at hc
    · simp at hc; subst hc; exact does_idxStr s hd ho (by assumption) (by assumption) (by assumption) side
    · split at hc
      · split at hc
        · simp at hc; subst hc; exact does_idxArr s hd ho (by assumption) (by assumption) (by assumption) (by assumption) (by assumption) (by assumption) side
        · cases hc
      · cases hc
    · cases hc
  | extract y i =>
    simp only [ho, compOp, Option.map_eq_some_iff] at hc
    obtain ⟨z, hz, rfl⟩ := hc
    exact does_extract s hd ho hz side
  | makeMap t r =>
    cases r with
    | none =>
      simp [ho, compOp] at hc; subst hc
      exact does_mapMake s hf hd ho
    | some r => simp [ho, compOp] at hc
  | lookup t y k ok =>
    simp only [ho, compOp] at hc
    split at hc
    · simp only [Option.map_eq_some_iff] at hc
      obtain ⟨z, hz, rfl⟩ := hc
      exact does_mapGet s hd ho (by assumption) (by assumption) (by assumption) hz side
    · cases hc
  | mapUpdate t m k y =>
    simp only [ho, compOp] at hc
    split at hc
    · simp at hc; subst hc
      exact does_mapPut s hd (.inl ho) (by assumption) (by assumption) (by assumption) (by assumption) side
    · cases hc
  | insert t m k y =>
    simp only [ho, compOp] at hc
    split at hc
    · simp at hc; subst hc
      exact does_mapPut s hd (.inr ho) (by assumption) (by assumption) (by assumption) (by assumption) side
    · cases hc
  | range t y =>
    simp only [ho, compOp] at hc
    split at hc
    · simp at hc; subst hc; exact does_range s hf hd ho (by assumption) (by assumption) side
    · cases hc
  | next y b =>
    simp only [ho, compOp] at hc
    split at hc
    · simp only [Option.map_eq_some_iff] at hc
      obtain ⟨z, hz, rfl⟩ := hc
      exact does_next s hd ho hz side
    · cases hc
  | call c =>
    obtain ⟨callee, args, ts⟩ := c
    cases callee with
    | builtin b =>
      simp only [ho, compOp, compBuiltin] at hc
      split at hc
      · rename_i y t h1 h2
        have ha : args = #[y] := by apply Array.ext'; simpa using h1
        have ht : ts = #[t] := by apply Array.ext'; simpa using h2
        subst ha; subst ht
        split at hc
        · simp at hc; subst hc; exact does_len s hd ho (by assumption) (by assumption) side
        · simp at hc; subst hc; exact does_lenStr s hd ho (by assumption) (by assumption) side
        · simp at hc; subst hc; exact does_mapLen s hd ho (by assumption) (by assumption) side
        · cases hc
      · rename_i p y t t' h1 h2
        have ha : args = #[p, y] := by apply Array.ext'; simpa using h1
        have ht : ts = #[t, t'] := by apply Array.ext'; simpa using h2
        subst ha; subst ht
        split at hc
        · simp at hc; subst hc; exact does_mapDel s hd ho (by assumption) (by assumption) (by assumption) side
        · cases hc
      · rename_i p y t t' h1 h2
        have ha : args = #[p, y] := by apply Array.ext'; simpa using h1
        have ht : ts = #[t, t'] := by apply Array.ext'; simpa using h2
        subst ha; subst ht
        split at hc
        · rename_i htt
          subst htt
          split at hc
          · split at hc
            · rename_i i h5
              split at hc
              · rename_i h6
                simp at hc; subst hc
                obtain ⟨h7, h8, h9⟩ := h6
                simp only [Option.map_eq_some_iff] at h9
                obtain ⟨z, h9, h10⟩ := h9
                revert side
                simp only [AOp.eff]
                cases an.r with
                | nils => exact fun side => does_appendK s hd ho (by assumption) (by assumption) (by assumption) h5 h9 h10 h7 h8 side
                | _ => exact fun side => does_append s hf hd ho (by assumption) (by assumption) (by assumption) h5 h9 h10 h7 h8 side
              · cases hc
            · cases hc
          · cases hc
        · cases hc
      · rename_i y t h1 h2
        have ha : args = #[y] := by apply Array.ext'; simpa using h1
        have ht : ts = #[t] := by apply Array.ext'; simpa using h2
        subst ha; subst ht
        split at hc
        · split at hc
          · rename_i i h5
            split at hc
            · rename_i z h6
              split at hc
              · rename_i h7
                simp at hc; subst hc
                exact does_clear s hd ho (by assumption) (by assumption) h5 h6 h7.1 h7.2.1 h7.2.2 side
              · cases hc
            · cases hc
          · cases hc
        · cases hc
      · rename_i p y t t' h1 h2
        have ha : args = #[p, y] := by apply Array.ext'; simpa using h1
        have ht : ts = #[t, t'] := by apply Array.ext'; simpa using h2
        subst ha; subst ht
        split at hc
        · split at hc
          · rename_i i h5
            split at hc
            · rename_i h6
              simp at hc; subst hc
              exact does_copy s hd ho (by assumption) (by assumption) (by assumption) h5 h6 side
            · cases hc
          · cases hc
        · cases hc
      · rename_i p y h1
        have ha : args = #[p, y] := by apply Array.ext'; simpa using h1
        subst ha
        split at hc
        · simp at hc; subst hc; exact does_minmax (mx := false) s hd (by simpa using ho) (by assumption) (by assumption) side
        · cases hc
      · rename_i p y h1
        have ha : args = #[p, y] := by apply Array.ext'; simpa using h1
        subst ha
        split at hc
        · simp at hc; subst hc; exact does_minmax (mx := true) s hd (by simpa using ho) (by assumption) (by assumption) side
        · cases hc
      · cases hc
    | value y =>
      cases y with
      | func f =>
        simp only [ho, compOp] at hc
        split at hc
        · split at hc
          · simp only [Option.map_eq_some_iff] at hc
            obtain ⟨z, hz, rfl⟩ := hc
            exact does_call s hf hd ho hz an side
          · cases hc
        · cases hc
      | _ =>
        simp only [ho, compOp] at hc
        split at hc
        · simp only [Option.map_eq_some_iff] at hc
          obtain ⟨z, hz, rfl⟩ := hc
          exact does_callv s hf hd ho (by assumption) hz an side
        · cases hc
    | invoke r m => simp [ho, compOp] at hc
  | _ => simp [ho, compOp] at hc

end Go.Ab
namespace Go.Ab
open Go.RowKit

def AOpd.temps : AOpd → List Nat
  | .t n => [n]
  | _ => []
def optTemps : Option AOpd → List Nat
  | none => []
  | some x => x.temps
def AOp.temps : AOp → List Nat
  | .clear _ _ x | .mv x | .box _ x | .load _ _ x | .un _ x | .fieldAddr _ x | .field _ _ _ x | .slice0 x | .len x | .lenStr x | .extract x _ | .conv _ x | .make _ _ _ _ x | .range x | .next x | .mapLen x => x.temps
  | .pick c a b => c.temps ++ (a.temps ++ b.temps)
  | .alloc _ | .bad | .mapMake => []
  | .mapGet _ _ x k | .mapDel x k => x.temps ++ k.temps
  | .mapPut x k v => x.temps ++ (k.temps ++ v.temps)
  | .build _ ps => ps.flatMap fun p => p.2.2.temps
  | .buildSlice _ _ ps => ps.flatMap AOpd.temps
  | .copy _ p x => p.temps ++ x.temps
  | .store _ x y | .bin _ x y | .eqAgg _ _ x y | .eqB _ x y | .idxAddr _ x y | .idxStr x y | .idxArr _ _ _ x y | .idxPtr _ _ x y | .append _ _ _ x y | .minmax _ x y => x.temps ++ y.temps
  | .slice _ x l h | .sliceStr x l h => x.temps ++ (optTemps l ++ optTemps h)
  | .call _ asz => asz.flatMap AOpd.temps
  | .callv x asz => x.temps ++ asz.flatMap AOpd.temps
  | .mkfn _ asz => asz.flatMap AOpd.temps

theorem evo_congr {S S' : AState} {x : AOpd} (h : ∀ t ∈ x.temps, S.t t = S'.t t) : evo S x = evo S' x := by
  cases x with
  | t n => exact h n (by simp [AOpd.temps])
  | _ => rfl
theorem evos_congr {S S' : AState} {l : List AOpd} (h : ∀ t ∈ l.flatMap AOpd.temps, S.t t = S'.t t) : l.map (evo S) = l.map (evo S') :=
  List.map_congr_left fun x hx => evo_congr fun t ht => h t (List.mem_flatMap.2 ⟨x, hx, ht⟩)
theorem opt_congr {S S' : AState} {x : Option AOpd} (h : ∀ t ∈ optTemps x, S.t t = S'.t t) : x.map (evo S) = x.map (evo S') := by
  cases x with
  | none => rfl
  | some x => simp only [Option.map_some]; rw [evo_congr h]
theorem buildE_congr {S S' : AState} : ∀ {ps : List (Nat × Nat × AOpd)} {cs : List AV}, (∀ t ∈ ps.flatMap (fun p => p.2.2.temps), S.t t = S'.t t) → buildE S ps cs = buildE S' ps cs
  | [], _, _ => rfl
  | (o, n, x) :: r, cs, h => by
    have h1 : evo S x = evo S' x := evo_congr fun t ht => h t (by simp [ht])
    have h2 := fun cs => buildE_congr (S := S) (S' := S') (ps := r) (cs := cs) fun t ht => h t (by simp only [List.flatMap_cons, List.mem_append]; exact .inr ht)
    simp only [buildE, h1, h2]
theorem rowE_congr {S S' : AState} {sz : Nat} : ∀ {ps : List AOpd}, (∀ t ∈ ps.flatMap AOpd.temps, S.t t = S'.t t) → rowE S sz ps = rowE S' sz ps
  | [], _ => rfl
  | x :: r, h => by
    have h1 : evo S x = evo S' x := evo_congr fun t ht => h t (by simp [ht])
    have h2 := rowE_congr (S := S) (S' := S') (sz := sz) (ps := r) fun t ht => h t (by simp only [List.flatMap_cons, List.mem_append]; exact .inr ht)
    simp only [rowE, h1, h2]

theorem effLoad_congr {h h' : Nat → Option Blk} {n : Nat} {agg : Bool} {x : AV} (hh : ∀ k ∈ (effLoad h n agg x).rd, h k = h' k) (hs : (effLoad h n agg x).side) : effLoad h n agg x = effLoad h' n agg x := by
  cases x with
  | bp b o =>
    cases hb : h b with
    | none => simp [effLoad, hb, Eff.fail] at hs
    | some blk => cases blk with
      | row es sz e => simp [effLoad, hb, Eff.fail] at hs
      | iter q p => simp [effLoad, hb, Eff.fail] at hs
      | rowX _ _ _ => simp [effLoad, hb, Eff.fail] at hs
      | map _ _ => simp [effLoad, hb, Eff.fail] at hs
      | rowS _ _ _ _ => simp [effLoad, hb, Eff.fail] at hs
      | box cs =>
        have : h' b = some (.box cs) := by rw [← hh b (by simp [effLoad, hb]), hb]
        simp [effLoad, hb, this]
  | ep b sz i o =>
    cases hb : h b with
    | none => simp [effLoad, hb, Eff.fail] at hs
    | some blk => cases blk with
      | box cs => simp [effLoad, hb, Eff.fail] at hs
      | iter q p => simp [effLoad, hb, Eff.fail] at hs
      | map _ _ => simp [effLoad, hb, Eff.fail] at hs
      | rowS _ _ _ _ => simp [effLoad, hb, Eff.fail] at hs
      | rowX es sz e =>
        have : h' b = some (.rowX es sz e) := by rw [← hh b (by simp [effLoad, hb]), hb]
        simp [effLoad, hb, this]
      | row es sz e =>
        have : h' b = some (.row es sz e) := by rw [← hh b (by simp [effLoad, hb]), hb]
        simp [effLoad, hb, this]
  | _ => rfl
theorem effStore_congr {h h' : Nat → Option Blk} {n : Nat} {p x : AV} (hh : ∀ k ∈ (effStore h n p x).rd, h k = h' k) (hs : (effStore h n p x).side) : effStore h n p x = effStore h' n p x := by
  cases p with
  | bp b o =>
    cases hb : h b with
    | none => simp [effStore, hb, Eff.fail] at hs
    | some blk => cases blk with
      | row es sz e => simp [effStore, hb, Eff.fail] at hs
      | iter q p => simp [effStore, hb, Eff.fail] at hs
      | rowX _ _ _ => simp [effStore, hb, Eff.fail] at hs
      | map _ _ => simp [effStore, hb, Eff.fail] at hs
      | rowS _ _ _ _ => simp [effStore, hb, Eff.fail] at hs
      | box cs =>
        have : h' b = some (.box cs) := by rw [← hh b (by simp [effStore, hb]), hb]
        simp [effStore, hb, this]
  | ep b sz i o =>
    cases hb : h b with
    | none => simp [effStore, hb, Eff.fail] at hs
    | some blk => cases blk with
      | box cs => simp [effStore, hb, Eff.fail] at hs
      | iter q p => simp [effStore, hb, Eff.fail] at hs
      | rowX _ _ _ => simp [effStore, hb, Eff.fail] at hs
      | map _ _ => simp [effStore, hb, Eff.fail] at hs
      | rowS _ _ _ _ => simp [effStore, hb, Eff.fail] at hs
      | row es sz e =>
        have : h' b = some (.row es sz e) := by rw [← hh b (by simp [effStore, hb]), hb]
        simp [effStore, hb, this]
  | _ => rfl
theorem effStoreX_congr {h h' : Nat → Option Blk} {n : Nat} {p x : AV} (hh : ∀ k ∈ (effStoreX h n p x).rd, h k = h' k) (hs : (effStoreX h n p x).side) : effStoreX h n p x = effStoreX h' n p x := by
  cases p with
  | ep b sz i o =>
    cases hb : h b with
    | none => simp [effStoreX, storeX, hb, Eff.fail] at hs
    | some blk => cases blk with
      | row es sz e =>
        have : h' b = some (.row es sz e) := by rw [← hh b (by simp [effStoreX, storeX, hb]), hb]
        simp [effStoreX, storeX, hb, this]
      | _ => simp [effStoreX, storeX, hb, Eff.fail] at hs
  | _ => rfl
theorem effIdxAddr_congr {h h' : Nat → Option Blk} {n : Nat} {i x : AV} (hh : ∀ k ∈ (effIdxAddr h n i x).rd, h k = h' k) (hs : (effIdxAddr h n i x).side) : effIdxAddr h n i x = effIdxAddr h' n i x := by
  cases x with
  | own b =>
    cases hb : h b with
    | none => cases i <;> simp [effIdxAddr, hb, Eff.fail] at hs
    | some blk => cases blk with
      | box cs => cases i <;> simp [effIdxAddr, hb, Eff.fail] at hs
      | iter q p => cases i <;> simp [effIdxAddr, hb, Eff.fail] at hs
      | map _ _ => cases i <;> simp [effIdxAddr, hb, Eff.fail] at hs
      | rowS _ _ _ _ => cases i <;> simp [effIdxAddr, hb, Eff.fail] at hs
      | rowX es sz e =>
        cases i with
        | v z => cases z with
          | int k q =>
            have : h' b = some (.rowX es sz e) := by rw [← hh b (by simp [effIdxAddr, hb]), hb]
            simp [effIdxAddr, hb, this]
          | _ => simp [effIdxAddr, hb, Eff.fail] at hs
        | _ => simp [effIdxAddr, hb, Eff.fail] at hs
      | row es sz e =>
        cases i with
        | v z => cases z with
          | int k q =>
            have : h' b = some (.row es sz e) := by rw [← hh b (by simp [effIdxAddr, hb]), hb]
            simp [effIdxAddr, hb, this]
          | _ => simp [effIdxAddr, hb, Eff.fail] at hs
        | _ => simp [effIdxAddr, hb, Eff.fail] at hs
  | pre b kk =>
    cases hb : h b with
    | none => cases i <;> simp [effIdxAddr, hb, Eff.fail] at hs
    | some blk => cases blk with
      | box cs => cases i <;> simp [effIdxAddr, hb, Eff.fail] at hs
      | iter q p => cases i <;> simp [effIdxAddr, hb, Eff.fail] at hs
      | rowX _ _ _ => cases i <;> simp [effIdxAddr, hb, Eff.fail] at hs
      | map _ _ => cases i <;> simp [effIdxAddr, hb, Eff.fail] at hs
      | rowS _ _ _ _ => cases i <;> simp [effIdxAddr, hb, Eff.fail] at hs
      | row es sz e =>
        cases i with
        | v z => cases z with
          | int k q =>
            have : h' b = some (.row es sz e) := by rw [← hh b (by simp [effIdxAddr, hb]), hb]
            simp [effIdxAddr, hb, this]
          | _ => simp [effIdxAddr, hb, Eff.fail] at hs
        | _ => simp [effIdxAddr, hb, Eff.fail] at hs
  | _ => rfl
theorem effLen_congr {h h' : Nat → Option Blk} {x : AV} (hh : ∀ k ∈ (effLen h x).rd, h k = h' k) (hs : (effLen h x).side) : effLen h x = effLen h' x := by
  cases x with
  | own b =>
    cases hb : h b with
    | none => simp [effLen, hb, Eff.fail] at hs
    | some blk => cases blk with
      | box cs => simp [effLen, hb, Eff.fail] at hs
      | iter q p => simp [effLen, hb, Eff.fail] at hs
      | rowX _ _ _ => simp [effLen, hb, Eff.fail] at hs
      | map _ _ => simp [effLen, hb, Eff.fail] at hs
      | rowS _ _ _ _ => simp [effLen, hb, Eff.fail] at hs
      | row es sz e =>
        have : h' b = some (.row es sz e) := by rw [← hh b (by simp [effLen, hb]), hb]
        simp [effLen, hb, this]
  | _ => rfl
theorem elemsOf_congr {h h' : Nat → Option Blk} {sz : Nat} {x : AV} {ys : List (List AV)} {rx : List Nat} (he : elemsOf h sz x = some (ys, rx)) (hh : ∀ k ∈ rx, h k = h' k) : elemsOf h' sz x = some (ys, rx) := by
  cases x with
  | own b =>
    cases hb : h b with
    | none => simp [elemsOf, hb] at he
    | some blk => cases blk with
      | box cs => simp [elemsOf, hb] at he
      | iter q p => simp [elemsOf, hb] at he
      | rowX _ _ _ => simp [elemsOf, hb] at he
      | map _ _ => simp [elemsOf, hb] at he
      | rowS _ _ _ _ => simp [elemsOf, hb] at he
      | row es sz' e =>
        simp only [elemsOf, hb] at he ⊢
        split at he
        · rename_i hs
          simp at he
          obtain ⟨rfl, rfl⟩ := he
          rw [← hh b (by simp), hb]
          simp [hs]
        · cases he
  | _ => exact he
theorem effAppend_congr {h h' : Nat → Option Blk} {nm : Nat} {e : TypeId} {sz bytes : Nat} {s x : AV} (hh : ∀ k ∈ (effAppend h nm e sz bytes s x).rd, h k = h' k) (hs : (effAppend h nm e sz bytes s x).side) :
    effAppend h nm e sz bytes s x = effAppend h' nm e sz bytes s x := by
  unfold effAppend at *
  cases hel : elemsOf h sz x with
  | none => simp [hel, Eff.fail] at hs
  | some yr =>
    obtain ⟨ys, rx⟩ := yr
    simp only [hel] at hs hh ⊢
    cases s with
    | nils =>
      simp only at hh
      rw [elemsOf_congr hel hh]
    | own b =>
      cases hb : h b with
      | none => simp [hb, Eff.fail] at hs
      | some blk => cases blk with
        | box cs => simp [hb, Eff.fail] at hs
        | iter q p => simp [hb, Eff.fail] at hs
        | rowX _ _ _ => simp [hb, Eff.fail] at hs
        | map _ _ => simp [hb, Eff.fail] at hs
        | rowS es zs sz' e' =>
          simp only [hb] at hh ⊢
          rw [elemsOf_congr hel fun k hk => hh k (List.mem_cons_of_mem _ hk), ← hh b List.mem_cons_self, hb]
        | row es sz' e' =>
          simp only [hb] at hh ⊢
          rw [elemsOf_congr hel fun k hk => hh k (List.mem_cons_of_mem _ hk), ← hh b List.mem_cons_self, hb]
    | slf es sz' e' =>
      simp only at hh
      rw [elemsOf_congr hel hh]
    | _ => exact hs.elim
theorem effAppendK_congr {h h' : Nat → Option Blk} {e : TypeId} {sz bytes : Nat} {s x : AV} (hh : ∀ k ∈ (effAppendK h e sz bytes s x).rd, h k = h' k) (hs : (effAppendK h e sz bytes s x).side) :
    effAppendK h e sz bytes s x = effAppendK h' e sz bytes s x := by
  unfold effAppendK at *
  cases hel : elemsOf h sz x with
  | none => simp [hel, Eff.fail] at hs
  | some yr =>
    obtain ⟨ys, rx⟩ := yr
    simp only [hel] at hs hh ⊢
    cases s with
    | own b =>
      cases hb : h b with
      | none => simp [hb, Eff.fail] at hs
      | some blk => cases blk with
        | row es sz' e' =>
          simp only [hb] at hh ⊢
          rw [elemsOf_congr hel fun k hk => hh k (List.mem_cons_of_mem _ hk), ← hh b List.mem_cons_self, hb]
        | _ => simp [hb, Eff.fail] at hs
    | _ => exact hs.elim
theorem effCopy_congr {h h' : Nat → Option Blk} {sz : Nat} {p x : AV} (hh : ∀ k ∈ (effCopy h sz p x).rd, h k = h' k) (hs : (effCopy h sz p x).side) : effCopy h sz p x = effCopy h' sz p x := by
  cases p with
  | own b =>
    simp only [effCopy] at hh hs ⊢
    cases hel : elemsOf h sz x with
    | none => rw [hel] at hs; exact hs.elim
    | some yr =>
      obtain ⟨ys, rx⟩ := yr
      rw [hel] at hh hs
      simp only [copyX] at hh hs
      cases hb : h b with
      | none => rw [hb] at hs; exact hs.elim
      | some blk => cases blk with
        | box cs => rw [hb] at hs; exact hs.elim
        | iter q p => rw [hb] at hs; exact hs.elim
        | rowX _ _ _ => rw [hb] at hs; exact hs.elim
        | map _ _ => rw [hb] at hs; exact hs.elim
        | rowS _ _ _ _ => rw [hb] at hs; exact hs.elim
        | row es sz' e' =>
          rw [hb] at hh
          simp only [copyO] at hh
          rw [elemsOf_congr hel fun k hk => hh k (List.mem_cons_of_mem _ hk)]
          simp only [copyX]
          rw [← hh b List.mem_cons_self, hb]
  | _ => rfl
theorem effCall_congr {P : Program} {S S' : AState} {nm : Nat} {an : Ans} {f : FuncId} {args : List AV} (hh : ∀ k ∈ (effCall P S nm an f args).rd, S.h k = S'.h k) (hs : (effCall P S nm an f args).side) : effCall P S nm an f args = effCall P S' nm an f args := by
  have h1 : (∀ p ∈ an.hl, S.h p.1 = some p.2) = (∀ p ∈ an.hl, S'.h p.1 = some p.2) := by
    apply propext
    refine ⟨fun h p hp => ?_, fun _ => hs.1⟩
    rw [← hh p.1 (List.mem_map.2 ⟨p, hp, rfl⟩)]
    exact h p hp
  simp only [effCall, h1]

/-- An operation looks at nothing but its operands and at the blocks that it names. -/
theorem effNext_congr {h h' : Nat → Option Blk} {x : AV} (hh : ∀ k ∈ (effNext h x).rd, h k = h' k) (hs : (effNext h x).side) : effNext h x = effNext h' x := by
  cases x with
  | bp b o => cases o with
    | zero => cases hb : h b with
      | none => simp [effNext, hb, Eff.fail] at hs
      | some y => cases y with
        | iter q p =>
          have := hh b (by simp [effNext, hb])
          rw [hb] at this
          simp [effNext, hb, ← this]
        | box cs => simp [effNext, hb, Eff.fail] at hs
        | row es sz e => simp [effNext, hb, Eff.fail] at hs
        | rowX _ _ _ => simp [effNext, hb, Eff.fail] at hs
        | map _ _ => simp [effNext, hb, Eff.fail] at hs
        | rowS _ _ _ _ => simp [effNext, hb, Eff.fail] at hs
    | succ o => simp [effNext, Eff.fail] at hs
  | _ => rfl

theorem sliceO_congr {h h' : Nat → Option Blk} {sz : Nat} {lo hi : Option AV} {x : AV} (hh : ∀ k ∈ (effSliceO h sz lo hi x).rd, h k = h' k) (hs : (effSliceO h sz lo hi x).side) : effSliceO h sz lo hi x = effSliceO h' sz lo hi x := by
  cases x with
  | own b =>
    simp only [effSliceO] at hh hs ⊢
    cases hb : h b with
    | none => simp [sliceO, hb, Eff.fail] at hs
    | some y => cases y with
      | row es sz' e =>
        rw [hb] at hh hs
        cases lo <;> cases hi <;> simp only [sliceO] at hh hs ⊢
        · exact hs.elim
        · rw [← hh b (by simp), hb]
        · rw [← hh b (by simp), hb]
        · exact hs.elim
      | box cs => simp [sliceO, hb, Eff.fail] at hs
      | iter q p => simp [sliceO, hb, Eff.fail] at hs
      | rowX _ _ _ => simp [sliceO, hb, Eff.fail] at hs
      | map _ _ => simp [sliceO, hb, Eff.fail] at hs
      | rowS _ _ _ _ => simp [sliceO, hb, Eff.fail] at hs
  | _ => rfl
theorem effClear_congr {h h' : Nat → Option Blk} {sz : Nat} {zs : List Value} {x : AV} (hh : ∀ k ∈ (effClear h sz zs x).rd, h k = h' k) (hs : (effClear h sz zs x).side) : effClear h sz zs x = effClear h' sz zs x := by
  cases x with
  | suf b sz' i =>
    simp only [effClear] at hh hs ⊢
    split
    · rename_i hz
      rw [if_pos hz] at hh hs
      cases hb : h b with
      | none => simp [clearR, hb, Eff.fail] at hs
      | some y => cases y with
        | row es sz'' e =>
          rw [← hh b (by simp [clearR, hb]), hb]
        | box cs => simp [clearR, hb, Eff.fail] at hs
        | iter q p => simp [clearR, hb, Eff.fail] at hs
        | rowX _ _ _ => simp [clearR, hb, Eff.fail] at hs
        | map _ _ => simp [clearR, hb, Eff.fail] at hs
        | rowS _ _ _ _ => simp [clearR, hb, Eff.fail] at hs
    · rfl
  | _ => rfl
theorem mapB_congr {h h' : Nat → Option Blk} {b : Nat} {F : Option Blk → Eff} (hF : ∀ x, (F x).side → ∃ ks vs, x = some (.map ks vs)) (hr : ∀ ks vs, (F (some (.map ks vs))).rd = [b]) (hh : ∀ k ∈ (F (h b)).rd, h k = h' k) (hs : (F (h b)).side) : F (h b) = F (h' b) := by
  obtain ⟨ks, vs, e⟩ := hF _ hs
  rw [e, hr] at hh
  rw [← hh b (by simp)]
theorem mapSide {F : Option Blk → Eff} (h : ∀ x, (∀ ks vs, x ≠ some (.map ks vs)) → F x = .fail) : ∀ x, (F x).side → ∃ ks vs, x = some (.map ks vs) := fun x hs => by
  by_cases hx : ∃ ks vs, x = some (.map ks vs)
  · exact hx
  · rw [h x (fun ks vs e => hx ⟨ks, vs, e⟩)] at hs
    exact hs.elim
theorem effMapLen_congr {h h' : Nat → Option Blk} {x : AV} (hh : ∀ k ∈ (effMapLen h x).rd, h k = h' k) (hs : (effMapLen h x).side) : effMapLen h x = effMapLen h' x := by
  cases x with
  | mapv b => exact mapB_congr (F := mapLenB b) (mapSide fun x hx => by unfold mapLenB; split <;> simp_all) (fun _ _ => rfl) hh hs
  | _ => rfl
theorem effMapGet_congr {h h' : Nat → Option Blk} {z : AV} {ok : Bool} {x k : AV} (hh : ∀ q ∈ (effMapGet h z ok x k).rd, h q = h' q) (hs : (effMapGet h z ok x k).side) : effMapGet h z ok x k = effMapGet h' z ok x k := by
  unfold effMapGet at hh hs ⊢
  split at hs
  · exact mapB_congr (F := mapGetB _ z ok _) (mapSide fun x hx => by unfold mapGetB; split <;> simp_all) (fun _ _ => rfl) hh hs
  · rfl
  · exact hs.elim
theorem effMapPut_congr {h h' : Nat → Option Blk} {v x k : AV} (hh : ∀ q ∈ (effMapPut h v x k).rd, h q = h' q) (hs : (effMapPut h v x k).side) : effMapPut h v x k = effMapPut h' v x k := by
  unfold effMapPut at hh hs ⊢
  split at hs
  · exact mapB_congr (F := mapPutB _ _ v) (mapSide fun x hx => by unfold mapPutB; split <;> simp_all) (fun _ _ => rfl) hh hs
  · exact hs.elim
theorem effMapDel_congr {h h' : Nat → Option Blk} {x k : AV} (hh : ∀ q ∈ (effMapDel h x k).rd, h q = h' q) (hs : (effMapDel h x k).side) : effMapDel h x k = effMapDel h' x k := by
  unfold effMapDel at hh hs ⊢
  split at hs
  · exact mapB_congr (F := mapDelB _ _) (mapSide fun x hx => by unfold mapDelB; split <;> simp_all) (fun _ _ => rfl) hh hs
  · exact hs.elim
theorem eff_congr {P : Program} {nm : Nat} {S S' : AState} {an : Ans} {x : AOp} (ht : ∀ t ∈ x.temps, S.t t = S'.t t) (hh : ∀ k ∈ (x.eff P nm S an).rd, S.h k = S'.h k) (hs : (x.eff P nm S an).side) : x.eff P nm S an = x.eff P nm S' an := by
  cases x <;> simp only [AOp.temps, List.mem_append] at ht <;> simp only [AOp.eff] at hh hs ⊢
  case mv x => rw [evo_congr ht]
  case pick c a b => rw [evo_congr fun t h => ht t (.inl h), evo_congr fun t h => ht t (.inr (.inl h)), evo_congr fun t h => ht t (.inr (.inr h))]
  case box n x => rw [evo_congr ht]
  case build zs ps => rw [buildE_congr ht]
  case buildSlice e sz ps => rw [rowE_congr ht]
  case load n agg x => rw [← evo_congr ht]; exact effLoad_congr hh hs
  case store n p x =>
    rw [← evo_congr fun t h => ht t (.inl h), ← evo_congr fun t h => ht t (.inr h)]
    cases hr : an.r with
    | nils =>
      rw [hr] at hh hs
      exact effStoreX_congr hh hs
    | _ => rw [hr] at hh hs; exact effStore_congr hh hs
  case bin op x y => rw [evo_congr fun t h => ht t (.inl h), evo_congr fun t h => ht t (.inr h)]
  case eqAgg neg n x y => rw [evo_congr fun t h => ht t (.inl h), evo_congr fun t h => ht t (.inr h)]
  case eqB neg x y => rw [evo_congr fun t h => ht t (.inl h), evo_congr fun t h => ht t (.inr h)]
  case un op x => rw [evo_congr ht]
  case fieldAddr o x => rw [evo_congr ht]
  case field o n agg x => rw [evo_congr ht]
  case idxPtr ln sz x i => rw [evo_congr fun t h => ht t (.inl h), evo_congr fun t h => ht t (.inr h)]
  case idxAddr sz x i => rw [← evo_congr fun t h => ht t (.inl h), ← evo_congr fun t h => ht t (.inr h)]; exact effIdxAddr_congr hh hs
  case idxStr x i => rw [evo_congr fun t h => ht t (.inl h), evo_congr fun t h => ht t (.inr h)]
  case idxArr ln sz agg x i => rw [evo_congr fun t h => ht t (.inl h), evo_congr fun t h => ht t (.inr h)]
  case slice sz x lo hi => rw [← evo_congr (S := S) (S' := S') fun t h => ht t (.inl h), ← opt_congr (S := S) (S' := S') fun t h => ht t (.inr (.inl h)), ← opt_congr (S := S) (S' := S') fun t h => ht t (.inr (.inr h))]; exact sliceO_congr hh hs
  case copy sz p x => rw [← evo_congr fun t h => ht t (.inl h), ← evo_congr fun t h => ht t (.inr h)]; exact effCopy_congr hh hs
  case clear sz zs x => rw [← evo_congr ht]; exact effClear_congr hh hs
  case sliceStr x lo hi => rw [evo_congr fun t h => ht t (.inl h), opt_congr fun t h => ht t (.inr (.inl h)), opt_congr fun t h => ht t (.inr (.inr h))]
  case slice0 x => rw [evo_congr ht]
  case len x => rw [← evo_congr ht]; exact effLen_congr hh hs
  case lenStr x => rw [evo_congr ht]
  case append e sz bytes s x =>
    rw [← evo_congr fun t h => ht t (.inl h), ← evo_congr fun t h => ht t (.inr h)]
    cases hr : an.r with
    | nils =>
      rw [hr] at hh hs
      exact effAppendK_congr hh hs
    | _ => rw [hr] at hh hs; exact effAppend_congr hh hs
  case minmax mx x y => rw [evo_congr fun t h => ht t (.inl h), evo_congr fun t h => ht t (.inr h)]
  case call f args => rw [← evos_congr ht]; exact effCall_congr hh hs
  case callv x args =>
    rw [← evo_congr (S := S) (S' := S') fun t h => ht t (.inl h), ← evos_congr (S := S) (S' := S') fun t h => ht t (.inr h)]
    generalize evo S x = ax at *
    cases ax <;> first
      | exact effCall_congr hh hs
      | exact hs.elim
  case extract x i => rw [evo_congr ht]
  case mkfn f caps => rw [evos_congr ht]
  case conv k x => rw [evo_congr ht]
  case make e sz bytes zs n => rw [evo_congr ht]
  case range x => rw [evo_congr ht]
  case next x => rw [← evo_congr ht]; exact effNext_congr hh hs
  case mapLen x => rw [← evo_congr ht]; exact effMapLen_congr hh hs
  case mapGet z ok x k => rw [← evo_congr fun t h => ht t (.inl h), ← evo_congr fun t h => ht t (.inr h)]; exact effMapGet_congr hh hs
  case mapPut x k v => rw [← evo_congr fun t h => ht t (.inl h), ← evo_congr fun t h => ht t (.inr (.inl h)), ← evo_congr fun t h => ht t (.inr (.inr h))]; exact effMapPut_congr hh hs
  case mapDel x k => rw [← evo_congr fun t h => ht t (.inl h), ← evo_congr fun t h => ht t (.inr h)]; exact effMapDel_congr hh hs

/-- Is the operation wanted? -/
def gwant (g : Option (Nat × Bool)) (S : AState) : Option Bool :=
  match g with
  | none => some true
  | some (t, want) => match S.t t with
    | .v (.bool b) => some (b == want)
    | .tup [] => some false
    | _ => none
def gtemps : Option (Nat × Bool) → List Nat
  | none => []
  | some (t, _) => [t]

/-- What an operation reads and writes. -/
structure Ent where
  rt : List Nat
  rh : List Nat
  wt : Option Nat
  wh : List Nat

/-- One operation, run or passed over. -/
inductive One (P : Program) (o : AOper) (nm : Nat) (S : AState) : Ent → AV → List (Nat × Option Blk) → Prop
  | run (an : Ans) (hg : gwant o.guard S = some true) (hs : (o.op.eff P nm S an).side) :
      One P o nm S ⟨gtemps o.guard ++ o.op.temps, (o.op.eff P nm S an).rd, o.dst, (o.op.eff P nm S an).ups.map (·.1)⟩ (o.op.eff P nm S an).val (o.op.eff P nm S an).ups
  | skip (hg : gwant o.guard S = some false) : One P o nm S ⟨gtemps o.guard, [], o.dst, []⟩ (.tup []) []

theorem One.congr {P : Program} {o : AOper} {nm : Nat} {S S' : AState} {e : Ent} {v : AV} {u : List (Nat × Option Blk)} (h : One P o nm S e v u) (ht : ∀ t ∈ e.rt, S.t t = S'.t t) (hh : ∀ n ∈ e.rh, S.h n = S'.h n) : One P o nm S' e v u := by
  have hgw : ∀ l, (∀ t ∈ gtemps o.guard ++ l, S.t t = S'.t t) → gwant o.guard S = gwant o.guard S' := by
    intro l hl
    cases hgd : o.guard with
    | none => rfl
    | some p =>
      obtain ⟨t, want⟩ := p
      have : S.t t = S'.t t := hl t (by simp [hgd, gtemps])
      simp only [gwant, this]
  cases h with
  | run an hg hs =>
    have he := eff_congr (P := P) (nm := nm) (an := an) (x := o.op) (S := S) (S' := S') (fun t h => ht t (by simp [h])) hh hs
    have := One.run (P := P) (o := o) (nm := nm) (S := S') an (by rw [← hgw _ ht]; exact hg) (by rw [← he]; exact hs)
    rw [← he] at this
    exact this
  | skip hg => exact .skip (by rw [← hgw [] (by simpa using ht)]; exact hg)

end Go.Ab
namespace Go.Ab
open Go.RowKit

abbrev Upd := List (Nat × Option Blk)
def app1 (S : AState) (dst : Option Nat) (v : AV) (u : Upd) : AState := ⟨putT S.t dst v, updL S.h u⟩

section one
variable {P : Program} {E : Entry} {fr : Nat → Prop} {S : AState} {β : Nat → Value} {a : Act} {w : World} {nm : Nat} {ops : Array Oper} {i : Nat} {o : Oper} {ao : AOper} {draw : Bool}

theorem compOper_inv (h : compOper P draw ops o = some ao) : (compOp P o.op).getD .bad = ao.op ∧ compGuard ops o.guard = some ao.guard ∧ ao.dst = o.dst ∧ ao.deps = if draw then (o.after.toList.filter (Region.binds .any)).map (·.on) else [] := by
  unfold compOper at h
  split at h
  · rename_i g h2
    simp at h
    subst h
    exact ⟨rfl, h2, rfl, rfl⟩
  · cases h

theorem wanted_eq (s : Sim E fr S β a w) {g : Option (Nat × Bool)} (h : compGuard ops o.guard = some g) {b : Bool} (hb : gwant g S = some b) : Region.wanted o (yielded ops a.tmps) = b := by
  cases hg : o.guard with
  | none =>
    simp [hg, compGuard] at h
    subst h
    simp [gwant] at hb
    simp [Region.wanted, hg, ← hb]
  | some p =>
    obtain ⟨j, want⟩ := p
    simp only [hg, compGuard] at h
    cases hd : (ops[j]?).bind (·.dst) with
    | none => simp [hd] at h
    | some d =>
      simp only [hd, Option.some.injEq] at h
      subst h
      have ht := s.tm d
      simp only [gwant] at hb
      split at hb
      · rename_i b' heq
        rw [heq] at ht
        have e := ht.v_inv
        have hsz : d < a.tmps.size := by
          rcases Nat.lt_or_ge d a.tmps.size with h | h
          · exact h
          · simp [Array.getElem?_eq_none h, undef] at e
        have e2 : a.tmps[d]? = some (.bool b') := by
          rw [Array.getD_eq_getD_getElem?] at e
          cases hx : a.tmps[d]? with
          | none => simp [hx, undef] at e
          | some y => simpa [hx] using e
        simp only [Option.some.injEq] at hb
        simp only [Region.wanted, hg, yielded, hd, Option.bind_some, e2]
        rw [← hb]
        cases b' <;> cases want <;> rfl
      · rename_i heq
        rw [heq] at ht
        obtain ⟨xs, e, hl, _⟩ := ht.tup_inv
        have hx : xs = [] := List.eq_nil_of_length_eq_zero (by simpa using hl.symm)
        subst hx
        simp only [Option.some.injEq] at hb
        subst hb
        have e2 : a.tmps[d]? = none ∨ a.tmps[d]? = some (.tuple #[]) := by
          rw [Array.getD_eq_getD_getElem?] at e
          cases hx : a.tmps[d]? with
          | none => exact .inl rfl
          | some y => right; simpa [hx] using e
        simp only [Region.wanted, hg, yielded, hd, Option.bind_some]
        rcases e2 with e2 | e2 <;> simp [e2]
      · cases hb

theorem one_sound (hi : ops[i]? = some o) (hc : compOper P draw ops o = some ao) (s : Sim E fr S β a w) (hf : fr nm) (hd : ∀ d, o.dst = some d → d < a.tmps.size) {e : Ent} {v : AV} {u : Upd} (h1 : One P ao nm S e v u)
    {K : Act → World → Prop} {Q : Exit → Act → World → Prop} (hK : ∀ β' c w', Sim E (fun n => fr n ∧ n ≠ nm) (app1 S ao.dst v u) β' (a.put o.dst c) w' → K (a.put o.dst c) w') : wpOp P ops Q i K a w := by
  obtain ⟨hc1, hc2, hc3, _⟩ := compOper_inv hc
  unfold wpOp
  simp only [hi]
  cases h1 with
  | run an hg hs =>
    rw [wanted_eq s hc2 hg]
    simp only [if_true]
    left
    cases hx : compOp P o.op with
    | none =>
      rw [hx] at hc1
      rw [← hc1] at hs
      exact hs.elim
    | some x =>
    rw [hx] at hc1
    have hc1 : compOp P o.op = some ao.op := by rw [hx, ← hc1]; rfl
    refine op_sound hc1 s hf hd hs K Q (fun β' c w' hs' => hK β' c w' ?_)
    rw [hc3]
    exact hs'
  | skip hg =>
    rw [wanted_eq s hc2 hg]
    simp only [Bool.false_eq_true, if_false]
    refine hK β undef w ?_
    rw [hc3]
    exact (s.same o.dst hd (.pure (.tup [] [] rfl (fun j hj => by simp at hj)))).less fun n h => h.1
end one

/-- A run in the order of the text. -/
inductive Runs (P : Program) : List AOper → Nat → AState → List (Ent × AV × Upd) → AState → Prop
  | nil (nm S) : Runs P [] nm S [] S
  | cons {o l nm S e v u log S'} (h1 : One P o nm S e v u) (h2 : Runs P l (nm + 1) (app1 S o.dst v u) log S') : Runs P (o :: l) nm S ((e, v, u) :: log) S'

/-- Operations at which the prover chooses. -/
def AOp.choosy : AOp → Bool
  | .call .. | .callv .. | .buildSlice .. | .store .. | .append .. => true
  | _ => false
theorem choosy_of_call {op : AOp} (h : op.isCall = true) : op.choosy = true := by
  cases op <;> first | rfl | cases h

def astep (P : Program) (o : AOper) (nm : Nat) (S : AState) (K : AState → Prop) : Prop :=
  if o.op.choosy then ∃ an, (o.op.eff P nm S an).side ∧ K (S.app o.dst (o.op.eff P nm S an))
  else (o.op.eff P nm S default).side ∧ K (S.app o.dst (o.op.eff P nm S default))

def gcase (g : Option (Nat × Bool)) (S : AState) (X Y : Prop) : Prop :=
  match g with
  | none => X
  | some (t, want) => match S.t t with
    | .v (.bool b) => (b = want → X) ∧ (b = (!want) → Y)
    | .tup [] => Y
    | _ => False

theorem gcase_elim {g : Option (Nat × Bool)} {S : AState} {X Y : Prop} (h : gcase g S X Y) : (gwant g S = some true ∧ X) ∨ (gwant g S = some false ∧ Y) := by
  cases g with
  | none => exact .inl ⟨rfl, h⟩
  | some p =>
    obtain ⟨t, want⟩ := p
    simp only [gcase] at h
    split at h
    · rename_i b heq
      by_cases hb : b = want
      · exact .inl ⟨by simp [gwant, heq, hb], h.1 hb⟩
      · have hb' : b = (!want) := by cases b <;> cases want <;> simp_all
        exact .inr ⟨by simp [gwant, heq, hb'], h.2 hb'⟩
    · rename_i heq
      exact .inr ⟨by simp [gwant, heq], h⟩
    · exact h.elim

/-- The operations of a region, one behind the other. -/
def aops (P : Program) : List AOper → Nat → AState → (AState → Prop) → Prop
  | [], _, S, K => K S
  | o :: r, nm, S, K => gcase o.guard S (astep P o nm S fun S' => aops P r (nm + 1) S' K) (aops P r (nm + 1) (S.put o.dst (.tup [])) K)

theorem aops_runs {P : Program} : ∀ (l : List AOper) (nm : Nat) (S : AState) (K : AState → Prop), aops P l nm S K → ∃ log S', Runs P l nm S log S' ∧ K S'
  | [], nm, S, K, h => ⟨[], S, .nil nm S, h⟩
  | o :: r, nm, S, K, h => by
    rcases gcase_elim h with ⟨hg, h⟩ | ⟨hg, h⟩
    · unfold astep at h
      split at h
      · obtain ⟨an, hs, h⟩ := h
        obtain ⟨log, S', h1, h2⟩ := aops_runs r _ _ K h
        exact ⟨_, S', .cons (.run an hg hs) h1, h2⟩
      · obtain ⟨hs, h⟩ := h
        obtain ⟨log, S', h1, h2⟩ := aops_runs r _ _ K h
        exact ⟨_, S', .cons (.run default hg hs) h1, h2⟩
    · obtain ⟨log, S', h1, h2⟩ := aops_runs r _ _ K h
      exact ⟨_, S', .cons (.skip hg) h1, h2⟩

def ent (o : AOper) (e : Eff) : Ent := ⟨gtemps o.guard ++ o.op.temps, e.rd, o.dst, e.ups.map (·.1)⟩

def astepL (P : Program) (o : AOper) (nm : Nat) (S : AState) (K : AState → Ent → Prop) : Prop :=
  if o.op.choosy then ∃ an, (o.op.eff P nm S an).side ∧ K (S.app o.dst (o.op.eff P nm S an)) (ent o (o.op.eff P nm S an))
  else (o.op.eff P nm S default).side ∧ K (S.app o.dst (o.op.eff P nm S default)) (ent o (o.op.eff P nm S default))

/-- The same, with a list of what was read and written. -/
def aopsL (P : Program) : List AOper → Nat → AState → List Ent → (AState → List Ent → Prop) → Prop
  | [], _, S, l, K => K S l
  | o :: r, nm, S, l, K => gcase o.guard S (astepL P o nm S fun S' e => aopsL P r (nm + 1) S' (l ++ [e]) K) (aopsL P r (nm + 1) (S.put o.dst (.tup [])) (l ++ [⟨gtemps o.guard, [], o.dst, []⟩]) K)

theorem aopsL_runs {P : Program} : ∀ (l : List AOper) (nm : Nat) (S : AState) (es : List Ent) (K : AState → List Ent → Prop), aopsL P l nm S es K → ∃ log S', Runs P l nm S log S' ∧ K S' (es ++ log.map (·.1))
  | [], nm, S, es, K, h => ⟨[], S, .nil nm S, by rw [List.map_nil, List.append_nil]; exact h⟩
  | o :: r, nm, S, es, K, h => by
    rcases gcase_elim h with ⟨hg, h⟩ | ⟨hg, h⟩
    · unfold astepL at h
      split at h
      · obtain ⟨an, hs, h⟩ := h
        obtain ⟨log, S', h1, h2⟩ := aopsL_runs r _ _ _ K h
        exact ⟨_, S', .cons (.run an hg hs) h1, by simpa [ent] using h2⟩
      · obtain ⟨hs, h⟩ := h
        obtain ⟨log, S', h1, h2⟩ := aopsL_runs r _ _ _ K h
        exact ⟨_, S', .cons (.run default hg hs) h1, by simpa [ent] using h2⟩
    · obtain ⟨log, S', h1, h2⟩ := aopsL_runs r _ _ _ K h
      exact ⟨_, S', .cons (.skip hg) h1, by simpa using h2⟩

section seq
variable {P : Program} {E : Entry} {draw : Bool}

theorem mapM_get {α γ : Type} {f : α → Option γ} : ∀ {l : List α} {l' : List γ}, l.mapM f = some l' → l.length = l'.length ∧ ∀ (i : Nat) (x : α) (y : γ), l[i]? = some x → l'[i]? = some y → f x = some y
  | [], l', h => by simp at h; subst h; exact ⟨rfl, fun i x y hx => by simp at hx⟩
  | x :: l, l', h => by
    simp only [List.mapM_cons, Option.bind_eq_bind, Option.bind_eq_some_iff, Option.pure_def, Option.some.injEq] at h
    obtain ⟨y, hy, r, hr, rfl⟩ := h
    obtain ⟨h1, h2⟩ := mapM_get hr
    refine ⟨by simp [h1], fun i x' y' hx hy' => ?_⟩
    cases i with
    | zero => simp at hx hy'; subst hx; subst hy'; exact hy
    | succ i => simp at hx hy'; exact h2 i _ _ hx hy'

/-- In the order of the text. -/
theorem runs_sound {ops : Array Oper} {all : List AOper} (hc : ops.toList.mapM (compOper P draw ops) = some all) {n : Nat} (hds : ∀ o ∈ all, ∀ d, o.dst = some d → d < n) {Q : Exit → Act → World → Prop} {fin : AState} {nx : Nat}
    (hQ : ∀ β a w, Sim E (fun k => nx + all.length ≤ k) fin β a w → Q .normal a w) :
    ∀ (l : List AOper) (k : Nat) (log : List (Ent × AV × Upd)) (S : AState), (∀ j, l[j]? = all[k + j]?) → k + l.length = all.length → Runs P l (nx + k) S log fin →
      ∀ β a w, Sim E (fun m => nx + k ≤ m) S β a w → a.tmps.size = n → wpOps P ops Q (List.range' k l.length) a w
  | [], k, log, S, _, hk, hr, β, a, w, s, hn => by
    cases hr
    have : k = all.length := by simpa using hk
    subst this
    exact hQ β a w s
  | o :: l, k, log, S, hl, hk, hr, β, a, w, s, hn => by
    cases hr with
    | cons h1 h2 =>
      obtain ⟨hlen, hget⟩ := mapM_get hc
      have ho : all[k]? = some o := by simpa using (hl 0).symm
      have hkl : k < ops.toList.length := by rw [hlen]; exact (List.getElem?_eq_some_iff.1 ho).1
      have ho' : ops.toList[k]? = some ops.toList[k] := List.getElem?_eq_getElem hkl
      have hco := hget k _ _ ho' ho
      have hio : ops[k]? = some ops.toList[k] := by rw [← Array.getElem?_toList]; exact ho'
      obtain ⟨_, _, hdst, _⟩ := compOper_inv hco
      simp only [List.length_cons, List.range'_succ]
      rw [wpOps_cons]
      refine one_sound (nm := nx + k) hio hco s (Nat.le_refl _) (fun d hd => by rw [hn]; exact hds o (List.mem_of_getElem? ho) d (by rw [hdst]; exact hd)) h1 (fun β' c w' s' => ?_)
      refine runs_sound hc hds hQ l (k + 1) _ _ (fun j => by have := hl (j + 1); simpa [Nat.add_assoc, Nat.add_comm 1 j] using this) (by simp at hk; omega) h2 β' _ w' (s'.less fun m hm => ⟨by omega, by omega⟩) (by rw [size_put]; exact hn)

theorem wp_aregion {ops : Array Oper} {all : List AOper} (hc : ops.toList.mapM (compOper P false ops) = some all) {n : Nat} (hds : ∀ o ∈ all, ∀ d, o.dst = some d → d < n) {Q : Exit → Act → World → Prop} {nx : Nat} {S : AState} {K : AState → Prop}
    (h : aops P all nx S K) (hQ : ∀ S' β a w, K S' → Sim E (fun k => nx + all.length ≤ k) S' β a w → a.tmps.size = n → Q .normal a w) {id : Nat} {β : Nat → Value} {a : Act} {w : World} (s : Sim E (fun k => nx ≤ k) S β a w) (hn : a.tmps.size = n) :
    (Code.region id ops false).wp P Q a w := by
  obtain ⟨log, S', h1, h2⟩ := aops_runs all nx S K h
  refine wp_region ?_
  obtain ⟨hlen, _⟩ := mapM_get hc
  have hE : E.n = n := by rw [← hn]; exact s.sz.symm
  have := runs_sound (E := E) hc hds (Q := Q) (fin := S') (nx := nx) (fun β a w s' => hQ S' β a w h2 s' (by rw [s'.sz, hE])) all 0 log S (by simp) (by simp) (by simpa using h1) β a w (by simpa using s) hn
  rw [← hlen] at this
  simpa [List.range_eq_range'] using this
end seq

end Go.Ab
namespace Go.Ab
open Go.RowKit

instance : Inhabited Ent := ⟨⟨[], [], none, []⟩⟩

/-- For each operation those that stand before it, whatever the order. -/
def befs : List (List Nat) → List (List Nat) → List (List Nat)
  | [], acc => acc
  | d :: r, acc => befs r (acc ++ [d ++ d.flatMap fun j => acc.getD j []])

def freeE (a b : Ent) : Bool :=
  (match a.wt with | some d => !b.rt.contains d && b.wt != some d | none => true) &&
  (match b.wt with | some d => !a.rt.contains d | none => true) &&
  a.wh.all (fun n => !b.rh.contains n && !b.wh.contains n) && b.wh.all (fun n => !a.rh.contains n)

def depsLow : List (List Nat) → Nat → Bool
  | [], _ => true
  | d :: r, i => d.all (fun j => decide (j < i)) && depsLow r (i + 1)

def drawOk (deps : List (List Nat)) (es : List Ent) : Bool :=
  depsLow deps 0 &&
  (List.range es.length).all fun i => (List.range i).all fun j => ((befs deps []).getD i []).contains j || freeE (es.getD j default) (es.getD i default)

theorem depsLow_spec : ∀ {deps : List (List Nat)} {i : Nat}, depsLow deps i = true → ∀ (k : Nat) (d : List Nat), deps[k]? = some d → ∀ j ∈ d, j < i + k
  | [], i, _, k, d, hk, j, hj => by simp at hk
  | x :: r, i, h, k, d, hk, j, hj => by
    simp only [depsLow, Bool.and_eq_true, List.all_eq_true, decide_eq_true_eq] at h
    cases k with
    | zero => simp at hk; subst hk; exact h.1 j hj
    | succ k =>
      simp at hk
      have := depsLow_spec h.2 k d hk j hj
      omega

/-- What is done is closed under what is asked before. -/
theorem befs_closed {deps : List (List Nat)} (D : Nat → Prop) (hlow : ∀ (k : Nat) (d : List Nat), deps[k]? = some d → ∀ j ∈ d, j < k) (hD : ∀ (k : Nat) (d : List Nat), deps[k]? = some d → D k → ∀ j ∈ d, D j) :
    ∀ (i : Nat), D i → ∀ j ∈ (befs deps []).getD i [], D j := by
  have key : ∀ (r acc : List (List Nat)) (k : Nat), acc.length = k → (∀ j, r[j]? = deps[k + j]?) → (∀ i, i < k → D i → ∀ j ∈ acc.getD i [], D j) → ∀ i, D i → ∀ j ∈ (befs r acc).getD i [], D j := by
    intro r
    induction r with
    | nil =>
      intro acc k hk _ ha i hi j hj
      by_cases hlt : i < k
      · exact ha i hlt hi j hj
      · rw [befs, List.getD_eq_getElem?_getD, List.getElem?_eq_none (by omega)] at hj
        simp at hj
    | cons d r ih =>
      intro acc k hk hr ha
      have hd : deps[k]? = some d := by simpa using (hr 0).symm
      simp only [befs]
      refine ih _ (k + 1) (by simp [hk]) (fun j => by have := hr (j + 1); simpa [Nat.add_assoc, Nat.add_comm 1 j] using this) (fun i hi hDi j hj => ?_)
      by_cases hlt : i < k
      · have e : (acc ++ [d ++ d.flatMap fun j => acc.getD j []]).getD i [] = acc.getD i [] := by
          simp only [List.getD_eq_getElem?_getD]; rw [List.getElem?_append_left (by omega)]
        rw [e] at hj
        exact ha i hlt hDi j hj
      · have : i = k := by omega
        subst this
        have e : (acc ++ [d ++ d.flatMap fun j => acc.getD j []]).getD i [] = d ++ d.flatMap fun j => acc.getD j [] := by
          simp only [List.getD_eq_getElem?_getD]; rw [List.getElem?_append_right (by omega)]; simp [hk]
        rw [e] at hj
        rcases List.mem_append.1 hj with hj | hj
        · exact hD i d hd hDi j hj
        · obtain ⟨q, hq, hj⟩ := List.mem_flatMap.1 hj
          exact ha q (hlow i d hd q hq) (hD i d hd hDi q hq) j hj
  exact fun i => key deps [] 0 rfl (by simp) (fun i hi => by omega) i

theorem befs_low {deps : List (List Nat)} (hlow : ∀ (k : Nat) (d : List Nat), deps[k]? = some d → ∀ j ∈ d, j < k) : ∀ (q : Nat), ∀ j ∈ (befs deps []).getD q [], j < q := by
  have key : ∀ (r acc : List (List Nat)) (k : Nat), acc.length = k → (∀ j, r[j]? = deps[k + j]?) → (∀ p, p < k → ∀ j ∈ acc.getD p [], j < p) → ∀ p, ∀ j ∈ (befs r acc).getD p [], j < p := by
    intro r
    induction r with
    | nil =>
      intro acc k hk _ ha p j hj
      by_cases hlt : p < k
      · exact ha p hlt j hj
      · rw [befs, List.getD_eq_getElem?_getD, List.getElem?_eq_none (by omega)] at hj
        simp at hj
    | cons d r ihr =>
      intro acc k hk hr' ha
      have hd : deps[k]? = some d := by simpa using (hr' 0).symm
      simp only [befs]
      refine ihr _ (k + 1) (by simp [hk]) (fun j => by have := hr' (j + 1); simpa [Nat.add_assoc, Nat.add_comm 1 j] using this) (fun p hp j hj => ?_)
      by_cases hlt : p < k
      · have e : (acc ++ [d ++ d.flatMap fun j => acc.getD j []]).getD p [] = acc.getD p [] := by
          simp only [List.getD_eq_getElem?_getD]; rw [List.getElem?_append_left (by omega)]
        rw [e] at hj
        exact ha p hlt j hj
      · have : p = k := by omega
        subst this
        have e : (acc ++ [d ++ d.flatMap fun j => acc.getD j []]).getD p [] = d ++ d.flatMap fun j => acc.getD j [] := by
          simp only [List.getD_eq_getElem?_getD]; rw [List.getElem?_append_right (by omega)]; simp [hk]
        rw [e] at hj
        rcases List.mem_append.1 hj with hj | hj
        · exact hlow p d hd j hj
        · obtain ⟨y, hy, hj⟩ := List.mem_flatMap.1 hj
          have h1 := hlow p d hd y hy
          have h2 := ha y h1 j hj
          omega
  exact key deps [] 0 rfl (by simp) (fun p hp => by omega)

/-- The state in which those of D have been carried out, in the order of the text. -/
def stD (D : Nat → Bool) : List (Option Nat × AV × Upd) → Nat → AState → AState
  | [], _, S => S
  | (d, v, u) :: r, k, S => stD D r (k + 1) (if D k then app1 S d v u else S)

theorem putT_other {f : Nat → AV} {dst : Option Nat} {v : AV} {t : Nat} (h : dst ≠ some t) : putT f dst v t = f t := by
  cases dst with
  | none => rfl
  | some d => simp only [putT, upd]; rw [if_neg (fun e => h (by rw [e]))]

theorem stD_congr (D D' : Nat → Bool) (t : Nat) : ∀ (L : List (Option Nat × AV × Upd)) (k : Nat) (S S' : AState), S.t t = S'.t t → (∀ j x, L[j]? = some x → x.1 = some t → D (k + j) = D' (k + j)) → (stD D L k S).t t = (stD D' L k S').t t
  | [], k, S, S', h, _ => h
  | (d, v, u) :: r, k, S, S', h, hD => by
    simp only [stD]
    refine stD_congr D D' t r (k + 1) _ _ ?_ (fun j x hx hd => by have := hD (j + 1) x (by simpa using hx) hd; rwa [show k + 1 + j = k + (j + 1) by omega])
    by_cases hdt : d = some t
    · have := hD 0 (d, v, u) (by simp) hdt
      simp only [Nat.add_zero] at this
      rw [this]
      cases D' k
      · simpa using h
      · simp [app1, hdt, putT, upd]
    · cases D k <;> cases D' k <;> simp [app1, putT_other hdt, h]

theorem stD_congrH (D D' : Nat → Bool) (n : Nat) : ∀ (L : List (Option Nat × AV × Upd)) (k : Nat) (S S' : AState), S.h n = S'.h n → (∀ j x, L[j]? = some x → n ∈ x.2.2.map (·.1) → D (k + j) = D' (k + j)) → (stD D L k S).h n = (stD D' L k S').h n
  | [], k, S, S', h, _ => h
  | (d, v, u) :: r, k, S, S', h, hD => by
    simp only [stD]
    refine stD_congrH D D' n r (k + 1) _ _ ?_ (fun j x hx hd => by have := hD (j + 1) x (by simpa using hx) hd; rwa [show k + 1 + j = k + (j + 1) by omega])
    by_cases hdt : n ∈ u.map (·.1)
    · have := hD 0 (d, v, u) (by simp) hdt
      simp only [Nat.add_zero] at this
      rw [this]
      cases D' k
      · simpa using h
      · simp only [if_true, app1]; exact updL_in u _ _ hdt
    · cases D k <;> cases D' k <;> simp [app1, updL_out u _ hdt, h]

/-- The last of those that wrote a place. -/
theorem stD_last (D : Nat → Bool) (t : Nat) {v : AV} {u : Upd} : ∀ (L : List (Option Nat × AV × Upd)) (k i : Nat) (S : AState), L[i]? = some (some t, v, u) → D (k + i) = true → (∀ j x, i < j → L[j]? = some x → x.1 = some t → D (k + j) = false) → (stD D L k S).t t = v
  | [], k, i, S, h, _, _ => by simp at h
  | (d, v', u') :: r, k, i, S, h, hi, hD => by
    simp only [stD]
    cases i with
    | zero =>
      simp at h
      obtain ⟨rfl, rfl, rfl⟩ := h
      simp only [Nat.add_zero] at hi
      rw [hi]
      have := stD_congr D (fun _ => false) t r (k + 1) (if true then app1 S (some t) v' u' else S) (app1 S (some t) v' u') rfl (fun j x hx hd => by have := hD (j + 1) x (by omega) (by simpa using hx) hd; rwa [show k + 1 + j = k + (j + 1) by omega])
      rw [this]
      have none : ∀ (L : List (Option Nat × AV × Upd)) (k : Nat) (S : AState), stD (fun _ => false) L k S = S := by
        intro L; induction L with
        | nil => intro k S; rfl
        | cons x r ih => intro k S; obtain ⟨d, v, u⟩ := x; simp only [stD]; exact ih _ _
      rw [none]
      simp [app1, putT, upd]
    | succ i =>
      simp at h
      exact stD_last D t r (k + 1) i _ h (by rw [← hi]; congr 1; omega) (fun j x hj hx hd => by have := hD (j + 1) x (by omega) (by simpa using hx) hd; rwa [show k + 1 + j = k + (j + 1) by omega])

theorem stD_lastH (D : Nat → Bool) (n : Nat) (g : Nat → Option Blk) {d : Option Nat} {v : AV} {u : Upd} (hn : n ∈ u.map (·.1)) : ∀ (L : List (Option Nat × AV × Upd)) (k i : Nat) (S : AState), L[i]? = some (d, v, u) → D (k + i) = true → (∀ j x, i < j → L[j]? = some x → n ∈ x.2.2.map (·.1) → D (k + j) = false) → (stD D L k S).h n = updL g u n
  | [], k, i, S, h, _, _ => by simp at h
  | (d', v', u') :: r, k, i, S, h, hi, hD => by
    simp only [stD]
    cases i with
    | zero =>
      simp at h
      obtain ⟨rfl, rfl, rfl⟩ := h
      simp only [Nat.add_zero] at hi
      rw [hi]
      have := stD_congrH D (fun _ => false) n r (k + 1) (if true then app1 S d' v' u' else S) (app1 S d' v' u') rfl (fun j x hx hd => by have := hD (j + 1) x (by omega) (by simpa using hx) hd; rwa [show k + 1 + j = k + (j + 1) by omega])
      rw [this]
      have none : ∀ (L : List (Option Nat × AV × Upd)) (k : Nat) (S : AState), stD (fun _ => false) L k S = S := by
        intro L; induction L with
        | nil => intro k S; rfl
        | cons x r ih => intro k S; obtain ⟨d, v, u⟩ := x; simp only [stD]; exact ih _ _
      rw [none]
      exact updL_in u' _ _ hn
    | succ i =>
      simp at h
      exact stD_lastH D n g hn r (k + 1) i _ h (by rw [← hi]; congr 1; omega) (fun j x hj hx hd => by have := hD (j + 1) x (by omega) (by simpa using hx) hd; rwa [show k + 1 + j = k + (j + 1) by omega])

/-- One more. -/
theorem stD_insert (D : Nat → Bool) (L : List (Option Nat × AV × Upd)) (S : AState) {i : Nat} {d : Option Nat} {v : AV} {u : Upd} (hi : L[i]? = some (d, v, u))
    (ht : ∀ j x, i < j → L[j]? = some x → D j = true → ∀ t, d = some t → x.1 ≠ some t) (hh : ∀ j x, i < j → L[j]? = some x → D j = true → ∀ n ∈ u.map (·.1), n ∉ x.2.2.map (·.1)) :
    stD (fun j => D j || j == i) L 0 S = app1 (stD D L 0 S) d v u := by
  have h1 : ∀ t, (stD (fun j => D j || j == i) L 0 S).t t = putT (stD D L 0 S).t d v t := by
    intro t
    by_cases hdt : d = some t
    · subst hdt
      rw [stD_last (fun j => D j || j == i) t L 0 i S hi (by simp) (fun j x hj hx hxt => ?_)]
      · simp [putT, upd]
      · have hji : j ≠ i := by omega
        cases hDj : D j with
        | false => simp [hDj, hji]
        | true => exact absurd hxt (ht j x hj hx hDj t rfl)
    · rw [putT_other hdt]
      refine stD_congr _ _ t L 0 S S rfl (fun j x hx hxt => ?_)
      have hji : j ≠ i := fun e => by
        subst e
        rw [hi] at hx
        simp at hx
        subst hx
        exact hdt hxt
      simp [hji]
  have h2 : ∀ n, (stD (fun j => D j || j == i) L 0 S).h n = updL (stD D L 0 S).h u n := by
    intro n
    by_cases hn : n ∈ u.map (·.1)
    · refine stD_lastH (fun j => D j || j == i) n _ hn L 0 i S hi (by simp) (fun j x hj hx hxt => ?_)
      have hji : j ≠ i := by omega
      cases hDj : D j with
      | false => simp [hDj, hji]
      | true => exact absurd hxt (hh j x hj hx hDj n hn)
    · rw [updL_out u _ hn]
      refine stD_congrH _ _ n L 0 S S rfl (fun j x hx hxt => ?_)
      have hji : j ≠ i := fun e => by
        subst e
        rw [hi] at hx
        simp at hx
        subst hx
        exact hn hxt
      simp [hji]
  have e1 : (stD (fun j => D j || j == i) L 0 S).t = putT (stD D L 0 S).t d v := funext h1
  have e2 : (stD (fun j => D j || j == i) L 0 S).h = updL (stD D L 0 S).h u := funext h2
  cases hst : stD (fun j => D j || j == i) L 0 S with
  | mk t h => rw [hst] at e1 e2; simp only [app1]; rw [← e1, ← e2]

/-- What a run says of each operation. -/
theorem Runs.get {P : Program} : ∀ {l : List AOper} {nm : Nat} {S : AState} {log : List (Ent × AV × Upd)} {fin : AState}, Runs P l nm S log fin →
    log.length = l.length ∧ (∀ (j : Nat) (x : Ent × AV × Upd), log[j]? = some x → ∃ o, l[j]? = some o ∧ x.1.wt = o.dst ∧ x.1.wh = x.2.2.map (·.1)) ∧
    (∀ k, fin = stD (fun _ => true) (log.map fun x => (x.1.wt, x.2.1, x.2.2)) k S) ∧
    ∀ (j : Nat) (o : AOper) (x : Ent × AV × Upd) (k : Nat), l[j]? = some o → log[j]? = some x → One P o (nm + j) (stD (fun q => decide (q < k + j)) (log.map fun x => (x.1.wt, x.2.1, x.2.2)) k S) x.1 x.2.1 x.2.2
  | _, _, _, _, _, .nil nm S => ⟨rfl, fun j x h => by simp at h, fun k => rfl, fun j o x k h => by simp at h⟩
  | _, nm, S, _, fin, @Runs.cons _ o l _ _ e v u log _ h1 h2 => by
    obtain ⟨g1, g2, g3, g4⟩ := Runs.get h2
    have hw : e.wt = o.dst ∧ e.wh = u.map (·.1) := by cases h1 <;> exact ⟨rfl, rfl⟩
    refine ⟨by simp [g1], fun j x hx => ?_, fun k => ?_, fun j o' x k ho hx => ?_⟩
    · cases j with
      | zero => simp at hx; subst hx; exact ⟨o, by simp, hw⟩
      | succ j => simp at hx; simpa using g2 j x hx
    · simp only [List.map_cons, stD, if_true]
      rw [hw.1]
      exact g3 (k + 1)
    · cases j with
      | zero =>
        simp at ho hx
        subst ho; subst hx
        have : stD (fun q => decide (q < k + 0)) (((e, v, u) :: log).map fun x => (x.1.wt, x.2.1, x.2.2)) k S = S := by
          have none : ∀ (L : List (Option Nat × AV × Upd)) (q : Nat) (S : AState), k ≤ q → stD (fun q => decide (q < k + 0)) L q S = S := by
            intro L; induction L with
            | nil => intro q S _; rfl
            | cons x r ih =>
              intro q S hq
              obtain ⟨d, v, u⟩ := x
              simp only [stD]
              rw [if_neg (by simp; omega)]
              exact ih _ _ (by omega)
          exact none _ k S (Nat.le_refl _)
        rw [this]
        exact h1
      | succ j =>
        simp at ho hx
        have := g4 j o' x (k + 1) ho hx
        simp only [List.map_cons, stD]
        rw [if_pos (by simp), hw.1]
        rw [show nm + (j + 1) = nm + 1 + j by omega]
        have e2 : (fun q => decide (q < k + (j + 1))) = fun q => decide (q < k + 1 + j) := by funext q; congr 1; simp; omega
        rw [e2]
        exact this

theorem freeE_spec {a b : Ent} (h : freeE a b = true) : (∀ t, a.wt = some t → t ∉ b.rt ∧ b.wt ≠ some t) ∧ (∀ t, b.wt = some t → t ∉ a.rt) ∧ (∀ n ∈ a.wh, n ∉ b.rh ∧ n ∉ b.wh) ∧ ∀ n ∈ b.wh, n ∉ a.rh := by
  simp only [freeE, Bool.and_eq_true, List.all_eq_true] at h
  obtain ⟨⟨⟨h1, h2⟩, h3⟩, h4⟩ := h
  refine ⟨fun t ht => ?_, fun t ht => ?_, fun n hn => ?_, fun n hn => ?_⟩
  · rw [ht] at h1; simpa using h1
  · rw [ht] at h2; simpa using h2
  · simpa using h3 n hn
  · simpa using h4 n hn

section draw
variable {P : Program} {E : Entry}

theorem any_sound {ops : Array Oper} {all : List AOper} (hc : ops.toList.mapM (compOper P true ops) = some all) {n : Nat} (hds : ∀ o ∈ all, ∀ d, o.dst = some d → d < n) {Q : Exit → Act → World → Prop} {S0 fin : AState} {nx : Nat}
    {log : List (Ent × AV × Upd)} (hr : Runs P all nx S0 log fin) (hok : drawOk (all.map (·.deps)) (log.map (·.1)) = true)
    (hQ : ∀ β a w, Sim E (fun k => nx + all.length ≤ k) fin β a w → Q .normal a w) :
    ∀ (fuel : Nat) (listed : Array Bool) (β : Nat → Value) (a : Act) (w : World), listed.size = ops.size → (∀ i d, i < ops.size → listed.getD i false = true → d ∈ ((all.map (·.deps)).getD i []) → listed.getD d false = true) →
      (listed.toList.filter (!·)).length = fuel → Sim E (fun k => nx ≤ k ∧ ∀ j, j < ops.size → listed.getD j false = true → k ≠ nx + j) (stD (fun j => listed.getD j false) (log.map fun x => (x.1.wt, x.2.1, x.2.2)) 0 S0) β a w → a.tmps.size = n →
      wpAny P .any ops Q fuel listed a w := by
  obtain ⟨hlen, hget⟩ := mapM_get hc
  obtain ⟨hl1, hl2, hl3, hl4⟩ := hr.get
  simp only [drawOk, Bool.and_eq_true, List.all_eq_true, List.mem_range, Bool.or_eq_true] at hok
  obtain ⟨hlow, hfree⟩ := hok
  have hlow' : ∀ (k : Nat) (d : List Nat), (all.map (·.deps))[k]? = some d → ∀ j ∈ d, j < k := fun k d hk j hj => by have := depsLow_spec hlow k d hk j hj; omega
  have hsz : ops.size = all.length := by rw [← hlen]; simp
  have comp : ∀ i, i < ops.size → ∃ o ao x, ops[i]? = some o ∧ all[i]? = some ao ∧ log[i]? = some x ∧ compOper P true ops o = some ao := by
    intro i hi
    have h1 : i < ops.toList.length := by simpa using hi
    have h2 : i < all.length := by omega
    have h3 : i < log.length := by omega
    refine ⟨ops.toList[i], all[i], log[i], ?_, List.getElem?_eq_getElem h2, List.getElem?_eq_getElem h3, ?_⟩
    · rw [← Array.getElem?_toList]; exact List.getElem?_eq_getElem h1
    · exact hget i _ _ (List.getElem?_eq_getElem h1) (List.getElem?_eq_getElem h2)
  -- ready or done
  have readyOf : ∀ (listed : Array Bool), listed.size = ops.size → Region.ready .any ops listed = [] → ∀ i, i < ops.size → listed.getD i false = true := by
    intro listed hls hre i
    induction i using Nat.strongRecOn with
    | _ i ih =>
      intro hi
      cases hb : listed.getD i false with
      | true => rfl
      | false =>
        exfalso
        obtain ⟨o, ao, x, h1, h2, h3, h4⟩ := comp i hi
        obtain ⟨_, _, _, hdp⟩ := compOper_inv h4
        simp only [if_true] at hdp
        have hm : i ∈ Region.ready .any ops listed := by
          simp only [Region.ready, List.mem_filter, List.mem_range, Bool.and_eq_true]
          refine ⟨hi, ?_, ?_⟩
          · have hil : i < listed.size := by omega
            simp only [Array.getD_eq_getD_getElem?, Array.getElem?_eq_getElem hil, Option.getD_some] at hb ⊢
            simp [hb]
          · rw [h1]
            simp only [Option.map_some, Option.getD_some, Array.all_eq_true_iff_forall_mem]
            intro e he
            cases hbn : Region.binds .any e with
            | false => simp
            | true =>
              have hmem : e.on ∈ ao.deps := by
                rw [hdp]
                exact List.mem_map.2 ⟨e, List.mem_filter.2 ⟨by simpa using he, hbn⟩, rfl⟩
              have hlt : e.on < i := hlow' i ao.deps (by simp [h2]) _ hmem
              simpa using ih e.on hlt (by omega)
        rw [hre] at hm
        cases hm
  have finish : ∀ (listed : Array Bool) β a w, listed.size = ops.size → Region.ready .any ops listed = [] → Sim E (fun k => nx ≤ k ∧ ∀ j, j < ops.size → listed.getD j false = true → k ≠ nx + j) (stD (fun j => listed.getD j false) (log.map fun x => (x.1.wt, x.2.1, x.2.2)) 0 S0) β a w → Q .normal a w := by
    intro listed β a w hls hre s
    have hall := readyOf listed hls hre
    refine hQ β a w ?_
    have e : stD (fun j => listed.getD j false) (log.map fun x => (x.1.wt, x.2.1, x.2.2)) 0 S0 = fin := by
      rw [hl3 0]
      have agree : ∀ (L : List (Option Nat × AV × Upd)) (k : Nat) (S : AState), k + L.length ≤ ops.size → stD (fun j => listed.getD j false) L k S = stD (fun _ => true) L k S := by
        intro L
        induction L with
        | nil => intro k S _; rfl
        | cons x r ih =>
          intro k S hk
          obtain ⟨d, v, u⟩ := x
          simp only [stD]
          rw [if_pos (hall k (by simp at hk; omega)), if_pos trivial]
          exact ih _ _ (by simp at hk; omega)
      exact agree _ 0 S0 (by simp; omega)
    rw [e] at s
    exact s.less fun k hk => ⟨by omega, fun j hj _ => by omega⟩
  intro fuel
  induction fuel with
  | zero =>
    intro listed β a w hls hcl hcnt s hn
    have hall : ∀ i, i < listed.size → listed.getD i false = true := by
      intro i hi
      have h0 : listed.toList.filter (!·) = [] := List.eq_nil_of_length_eq_zero hcnt
      rw [List.filter_eq_nil_iff] at h0
      have := h0 (listed[i]) (by simp)
      simpa [Array.getD_eq_getD_getElem?, hi] using this
    have hre : Region.ready .any ops listed = [] := by
      rw [List.eq_nil_iff_forall_not_mem]
      intro i hi
      simp only [Region.ready, List.mem_filter, List.mem_range, Bool.and_eq_true] at hi
      have hil : i < listed.size := by omega
      have := hall i hil
      have h2 := hi.2.1
      simp [Array.getD_eq_getD_getElem?, hil] at this h2
      rw [this] at h2
      cases h2
    exact ⟨hre, finish listed β a w hls hre s⟩
  | succ fuel ih =>
    intro listed β a w hls hcl hcnt s hn
    refine ⟨fun hre => finish listed β a w hls hre s, fun i hi => ?_⟩
    simp only [Region.ready, List.mem_filter, List.mem_range, Bool.and_eq_true] at hi
    obtain ⟨hilt, hnot, hall⟩ := hi
    have hil : i < listed.size := by omega
    have hnot' : listed.getD i false = false := by
      simp [Array.getD_eq_getD_getElem?, hil] at hnot ⊢
      exact hnot
    obtain ⟨o, ao, x, h1, h2, h3, h4⟩ := comp i hilt
    obtain ⟨_, _, hdst, hdp⟩ := compOper_inv h4
    simp only [if_true] at hdp
    -- what it waits for is done
    have hdeps : ∀ d ∈ ao.deps, listed.getD d false = true := by
      intro d hd
      rw [hdp] at hd
      obtain ⟨e, he, rfl⟩ := List.mem_map.1 hd
      obtain ⟨he1, he2⟩ := List.mem_filter.1 he
      rw [h1] at hall
      simp only [Option.map_some, Option.getD_some, Array.all_eq_true_iff_forall_mem] at hall
      have := hall e (by simpa using he1)
      simpa [he2] using this
    have hdi : (all.map (·.deps))[i]? = some ao.deps := by simp [h2]
    have D := fun j => listed.getD j false
    have closed : ∀ q, listed.getD q false = true → ∀ j ∈ (befs (all.map (·.deps)) []).getD q [], listed.getD j false = true := by
      refine befs_closed (fun q => listed.getD q false = true) hlow' (fun k d hk hDk j hj => ?_)
      have hkl : k < ops.size := by have := (List.getElem?_eq_some_iff.1 hk).1; simp at this; omega
      exact hcl k j hkl hDk (by rw [List.getD_eq_getElem?_getD, hk]; exact hj)
    have closedi : ∀ j ∈ (befs (all.map (·.deps)) []).getD i [], listed.getD j false = true := by
      intro j hj
      have := befs_closed (deps := all.map (·.deps)) (fun q => listed.getD q false = true ∨ q = i) hlow' (fun k d hk hDk j hj => by
        rcases hDk with hDk | rfl
        · have hkl : k < ops.size := by have := (List.getElem?_eq_some_iff.1 hk).1; simp at this; omega
          exact .inl (hcl k j hkl hDk (by rw [List.getD_eq_getElem?_getD, hk]; exact hj))
        · rw [hdi] at hk
          simp at hk
          subst hk
          exact .inl (hdeps j hj)) i (.inr rfl) j hj
      rcases this with h | h
      · exact h
      · exfalso
        have := befs_low hlow' i j hj
        omega
    -- the reads agree
    have hxw := hl2 i x h3
    obtain ⟨ao', hao', hxw1, hxw2⟩ := hxw
    rw [h2] at hao'
    simp only [Option.some.injEq] at hao'
    subst hao'
    have hent : ∀ j y, log[j]? = some y → (log.map (·.1)).getD j default = y.1 := fun j y hy => by simp [List.getD_eq_getElem?_getD, hy]
    have hlogl : ∀ j y, log[j]? = some y → j < ops.size := fun j y hy => by have := (List.getElem?_eq_some_iff.1 hy).1; omega
    have free : ∀ j y, log[j]? = some y → (listed.getD j false = true) ≠ (j < i) → j ≠ i → (j < i → freeE y.1 x.1 = true) ∧ (i < j → freeE x.1 y.1 = true) := by
      intro j y hy hne hji
      refine ⟨fun hlt => ?_, fun hlt => ?_⟩
      · have hnD : ¬ listed.getD j false = true := fun h => hne (propext ⟨fun _ => hlt, fun _ => h⟩)
        rcases hfree i (by simp; omega) j hlt with h | h
        · exact absurd (closedi j (by simpa using h)) hnD
        · rw [hent j y hy, hent i x h3] at h; exact h
      · have hD : listed.getD j false = true := by
          cases hDj : listed.getD j false with
          | true => rfl
          | false => exact absurd (propext ⟨fun h => by (rw [hDj] at h; cases h), fun h => by omega⟩) hne
        rcases hfree j (by have := hlogl j y hy; simp; omega) i hlt with h | h
        · have := closed j hD i (by simpa using h)
          rw [hnot'] at this
          cases this
        · rw [hent i x h3, hent j y hy] at h; exact h
    have hone := hl4 i ao x 0 h2 h3
    simp only [Nat.zero_add] at hone
    have hL : ∀ (j : Nat) (z : Option Nat × AV × Upd), (log.map fun x => (x.1.wt, x.2.1, x.2.2))[j]? = some z → ∃ y : Ent × AV × Upd, log[j]? = some y ∧ z = (y.1.wt, y.2.1, y.2.2) := by
      intro j z hz
      rw [List.getElem?_map, Option.map_eq_some_iff] at hz
      obtain ⟨y, hy, rfl⟩ := hz
      exact ⟨y, hy, rfl⟩
    have hone' : One P ao (nx + i) (stD (fun j => listed.getD j false) (log.map fun x => (x.1.wt, x.2.1, x.2.2)) 0 S0) x.1 x.2.1 x.2.2 := by
      refine hone.congr (fun t ht => ?_) (fun k hk => ?_)
      · refine stD_congr _ _ t _ 0 S0 S0 rfl (fun j z hz hzt => ?_)
        obtain ⟨y, hy, rfl⟩ := hL j z hz
        simp only [Nat.zero_add]
        by_cases hji : j = i
        · subst hji
          rw [hnot']
          simp
        · by_cases hcon : (listed.getD j false = true) ≠ (j < i)
          · obtain ⟨f1, f2⟩ := free j y hy hcon hji
            rcases Nat.lt_or_gt_of_ne hji with hlt | hlt
            · exact absurd ht ((freeE_spec (f1 hlt)).1 t hzt).1
            · exact absurd ht ((freeE_spec (f2 hlt)).2.1 t hzt)
          · have hcon' : (listed.getD j false = true) = (j < i) := Classical.not_not.1 hcon
            cases hDj : listed.getD j false with
            | true => rw [hDj] at hcon'; simpa using hcon'.symm
            | false => rw [hDj] at hcon'; simpa using hcon'.symm
      · refine stD_congrH _ _ k _ 0 S0 S0 rfl (fun j z hz hzt => ?_)
        obtain ⟨y, hy, rfl⟩ := hL j z hz
        simp only [Nat.zero_add]
        obtain ⟨_, _, _, hyw⟩ := hl2 j y hy
        by_cases hji : j = i
        · subst hji
          rw [hnot']
          simp
        · by_cases hcon : (listed.getD j false = true) ≠ (j < i)
          · obtain ⟨f1, f2⟩ := free j y hy hcon hji
            rcases Nat.lt_or_gt_of_ne hji with hlt | hlt
            · exact absurd hk ((freeE_spec (f1 hlt)).2.2.1 k (by rw [hyw]; exact hzt)).1
            · exact absurd hk ((freeE_spec (f2 hlt)).2.2.2 k (by rw [hyw]; exact hzt))
          · have hcon' : (listed.getD j false = true) = (j < i) := Classical.not_not.1 hcon
            cases hDj : listed.getD j false with
            | true => rw [hDj] at hcon'; simpa using hcon'.symm
            | false => rw [hDj] at hcon'; simpa using hcon'.symm
    have hins : stD (fun j => listed.getD j false || j == i) (log.map fun x => (x.1.wt, x.2.1, x.2.2)) 0 S0 = app1 (stD (fun j => listed.getD j false) (log.map fun x => (x.1.wt, x.2.1, x.2.2)) 0 S0) x.1.wt x.2.1 x.2.2 := by
      refine stD_insert _ _ S0 (by simp [h3]) (fun j z hj hz hDj t htt hzt => ?_) (fun j z hj hz hDj k hk hkz => ?_)
      · obtain ⟨y, hy, rfl⟩ := hL j z hz
        obtain ⟨_, f2⟩ := free j y hy (fun e => by have : j < i := cast e hDj; omega) (by omega)
        exact ((freeE_spec (f2 hj)).1 t htt).2 hzt
      · obtain ⟨y, hy, rfl⟩ := hL j z hz
        obtain ⟨_, _, _, hyw⟩ := hl2 j y hy
        obtain ⟨_, f2⟩ := free j y hy (fun e => by have : j < i := cast e hDj; omega) (by omega)
        exact ((freeE_spec (f2 hj)).2.2.1 k (by rw [hxw2]; exact hk)).2 (by rw [hyw]; exact hkz)
    have hset : ∀ j, (listed.setIfInBounds i true).getD j false = (listed.getD j false || j == i) := by
      intro j
      simp only [Array.getD_eq_getD_getElem?, Array.getElem?_setIfInBounds]
      by_cases hji : i = j
      · subst hji; simp [hil]
      · simp [hji, show ¬ j = i from fun e => hji e.symm]
    refine one_sound (nm := nx + i) h1 h4 s ⟨by omega, fun j hj hDj => by intro e; have : j = i := by omega
                                                                          subst this; rw [hnot'] at hDj; cases hDj⟩ (fun d hd => by rw [hn]; exact hds ao (List.mem_of_getElem? h2) d (by rw [hdst]; exact hd)) hone' (fun β' c w' s' => ?_)
    refine ih (listed.setIfInBounds i true) β' _ w' (by simpa using hls) (fun k d hk hDk hd => ?_) ?_ ?_ (by rw [size_put]; exact hn)
    · rw [hset] at hDk ⊢
      simp only [Bool.or_eq_true, beq_iff_eq] at hDk ⊢
      rcases hDk with hDk | rfl
      · exact .inl (hcl k d hk hDk hd)
      · rw [List.getD_eq_getElem?_getD, hdi] at hd
        exact .inl (hdeps d hd)
    · have hfl : listed[i] = false := by simpa [Array.getD_eq_getD_getElem?, hil] using hnot'
      have cnt : ∀ (l : List Bool) (i : Nat), l[i]? = some false → ((l.set i true).filter (!·)).length + 1 = (l.filter (!·)).length := by
        intro l
        induction l with
        | nil => intro i h; simp at h
        | cons b r ihl =>
          intro i h
          cases i with
          | zero => simp at h; subst h; simp
          | succ i =>
            simp at h
            have := ihl i h
            cases b <;> simp at this ⊢ <;> omega
      have := cnt listed.toList i (by simp [hil, hfl])
      simp only [Array.toList_setIfInBounds]
      omega
    · have e3 : (fun j => (listed.setIfInBounds i true).getD j false) = fun j => listed.getD j false || j == i := funext hset
      rw [e3, hins, hxw1]
      refine s'.less fun k hk => ⟨⟨hk.1, fun j hj hDj => hk.2 j hj (by rw [hset]; simp [hDj])⟩, hk.2 i hilt (by rw [hset]; simp)⟩

theorem wp_aregion_draw (hm : P.follows .mixedOrders = true) {ops : Array Oper} {all : List AOper} (hc : ops.toList.mapM (compOper P true ops) = some all) {n : Nat} (hds : ∀ o ∈ all, ∀ d, o.dst = some d → d < n) {Q : Exit → Act → World → Prop} {nx : Nat} {S : AState} {K : AState → Prop}
    (h : aopsL P all nx S [] (fun S' es => drawOk (all.map (·.deps)) es = true ∧ K S')) (hQ : ∀ S' β a w, K S' → Sim E (fun k => nx + all.length ≤ k) S' β a w → a.tmps.size = n → Q .normal a w) {id : Nat} {β : Nat → Value} {a : Act} {w : World} (s : Sim E (fun k => nx ≤ k) S β a w) (hn : a.tmps.size = n) :
    (Code.region id ops true).wp P Q a w := by
  obtain ⟨log, S', h1, h2, h3⟩ := aopsL_runs all nx S [] _ h
  have hE : E.n = n := by rw [← hn]; exact s.sz.symm
  refine wp_region_any hm ?_
  refine any_sound (E := E) hc hds h1 (by simpa using h2) (fun β a w s' => hQ S' β a w h3 s' (by rw [s'.sz, hE])) ops.size _ β a _ (by simp) (fun i d hi h => ?_) ?_ ?_ hn
  · simp [Array.getD_eq_getD_getElem?] at h
    simp [hi] at h
  · simp
  · have e : (fun j => (Array.replicate ops.size false).getD j false) = fun _ => false := by
      funext j
      simp only [Array.getD_eq_getD_getElem?, Array.getElem?_replicate]
      split <;> rfl
    have none : ∀ (L : List (Option Nat × AV × Upd)) (k : Nat) (S : AState), stD (fun _ => false) L k S = S := by
      intro L; induction L with
      | nil => intro k S; rfl
      | cons x r ih => intro k S; obtain ⟨d, v, u⟩ := x; simp only [stD]; exact ih _ _
    rw [e, none]
    exact s.drew.less fun k hk => hk.1
end draw

end Go.Ab
namespace Go.Ab
open Go.RowKit

inductive AExit
  | normal
  | exit (id : Nat)
  | ret
  deriving DecidableEq

def AExit.conv : AExit → Exit
  | .normal => .normal
  | .exit id => .exit id
  | .ret => .ret

def opsOk (n : Nat) (l : List AOper) : Bool := l.all fun o => match o.dst with | some d => decide (d < n) | none => true
/-- Every slot that is written lies in the frame. -/
def ACode.ok (n : Nat) : ACode → Bool
  | .region _ l => opsOk n l
  | .seq a b | .cond _ a b => a.ok n && b.ok n
  | .block _ c | .loop c | .scope c => c.ok n
  | _ => true

/-- What is asked of an entry: 'bs' names came in; if none, no old block may be written. -/
def Entry.fits (E : Entry) (bs : Nat) : Prop := (∀ k, bs ≤ k → E.β0 k = undef) ∧ (bs = 0 → ∀ g, ¬ E.may g)

/-- Carried out from any frame and world that fit S, the code ends as Q says. 'n': the frame's size; 'bs': the names below it came in. -/
def Awp (P : Program) (n bs : Nat) (c : ACode) (nx : Nat) (S : AState) (Q : AExit → Nat → AState → Prop) : Prop :=
  ∀ code, compCode P code = some c → c.ok n = true → P.follows .mixedOrders = true → ∀ E β a w, E.n = n → E.fits bs → Sim E (fun k => nx ≤ k) S β a w → ∀ Q' : Exit → Act → World → Prop,
    (∀ e nx' S' β' a' w', Q e nx' S' → Sim E (fun k => nx' ≤ k) S' β' a' w' → Q' e.conv a' w') → code.wp P Q' a w

section rules
variable {P : Program} {n bs nx : Nat} {S : AState} {Q : AExit → Nat → AState → Prop}

theorem Awp.skip (h : Q .normal nx S) : Awp P n bs .skip nx S Q := fun code hc _ _ E β a w _ _ s Q' hQ => by
  cases code <;> simp [compCode] at hc
  · exact wp_skip (hQ .normal nx S β a w h s)
  all_goals grind
theorem Awp.ret (h : Q .ret nx S) : Awp P n bs .ret nx S Q := fun code hc _ _ E β a w _ _ s Q' hQ => by
  cases code <;> simp [compCode] at hc
  case ret => exact wp_ret (hQ .ret nx S β a w h s)
  all_goals grind
theorem Awp.exit {id : Nat} (h : Q (.exit id) nx S) : Awp P n bs (.exit id) nx S Q := fun code hc _ _ E β a w _ _ s Q' hQ => by
  cases code <;> simp [compCode] at hc
  case exit id' => subst hc; exact wp_exit (hQ (.exit id') nx S β a w h s)
  all_goals grind

theorem Awp.region {l : List AOper} (h : aops P l nx S fun S' => Q .normal (nx + l.length) S') : Awp P n bs (.region false l) nx S Q := fun code hc hok _ E β a w hE _ s Q' hQ => by
  cases code <;> simp [compCode] at hc
  case region id ops draw =>
    obtain ⟨h1, rfl⟩ := hc
    refine wp_aregion (n := n) h1 (fun o ho d hd => ?_) h (fun S' β a w hk s' _ => hQ .normal _ S' β a w hk s') s (by rw [s.sz, hE])
    have := List.all_eq_true.1 hok o ho
    rw [hd] at this
    simpa using this
  all_goals grind

theorem Awp.draw {l : List AOper} (h : aopsL P l nx S [] fun S' es => drawOk (l.map (·.deps)) es = true ∧ Q .normal (nx + l.length) S') : Awp P n bs (.region true l) nx S Q := fun code hc hok hm E β a w hE _ s Q' hQ => by
  cases code <;> simp [compCode] at hc
  case region id ops draw =>
    obtain ⟨h1, rfl⟩ := hc
    refine wp_aregion_draw hm (n := n) h1 (fun o ho d hd => ?_) h (fun S' β a w hk s' _ => hQ .normal _ S' β a w hk s') s (by rw [s.sz, hE])
    have := List.all_eq_true.1 hok o ho
    rw [hd] at this
    simpa using this
  all_goals grind

def seqQ (K : Nat → AState → Prop) (Q : AExit → Nat → AState → Prop) : AExit → Nat → AState → Prop
  | .normal, nx, S => K nx S
  | e, nx, S => Q e nx S

theorem Awp.seq {x y : ACode} (h : Awp P n bs x nx S (seqQ (fun nx' S' => Awp P n bs y nx' S' Q) Q)) : Awp P n bs (.seq x y) nx S Q := fun code hc hok hm E β a w hE h0 s Q' hQ => by
  cases code <;> simp [compCode] at hc
  case seq cx cy =>
    cases h1 : compCode P cx <;> cases h2 : compCode P cy <;> simp [h1, h2] at hc
    obtain ⟨rfl, rfl⟩ := hc
    simp only [ACode.ok, Bool.and_eq_true] at hok
    refine wp_seq (h cx h1 hok.1 hm E β a w hE h0 s _ fun e nx' S' β' a' w' q s' => ?_)
    cases e with
    | normal => exact q cy h2 hok.2 hm E β' a' w' hE h0 s' Q' hQ
    | exit id => exact hQ (.exit id) _ _ β' a' w' q s'
    | ret => exact hQ .ret _ _ β' a' w' q s'
  all_goals grind

theorem Awp.seq_region {l : List AOper} {y : ACode} (h : aops P l nx S fun S' => Awp P n bs y (nx + l.length) S' Q) : Awp P n bs (.seq (.region false l) y) nx S Q := Awp.seq (Awp.region h)
theorem Awp.seq_draw {l : List AOper} {y : ACode} (h : aopsL P l nx S [] fun S' es => drawOk (l.map (·.deps)) es = true ∧ Awp P n bs y (nx + l.length) S' Q) : Awp P n bs (.seq (.region true l) y) nx S Q := Awp.seq (Awp.draw h)

theorem Awp.cond {c : AOpd} {x y : ACode} {t : Bool} (hc : evo S c = .v (.bool t)) (h1 : t = true → Awp P n bs x nx S Q) (h2 : t = false → Awp P n bs y nx S Q) : Awp P n bs (.cond c x y) nx S Q := fun code hcc hok hm E β a w hE h0 s Q' hQ => by
  cases code <;> simp [compCode] at hcc
  case cond cc cx cy =>
    cases g0 : compOpd cc <;> cases g1 : compCode P cx <;> cases g2 : compCode P cy <;> simp [g0, g1, g2] at hcc
    obtain ⟨rfl, rfl, rfl⟩ := hcc
    simp only [ACode.ok, Bool.and_eq_true] at hok
    have hv := sim_evo s g0
    rw [hc] at hv
    refine wp_cond_split hv.v_inv (fun ht => h1 ht cx g1 hok.1 hm E β a w hE h0 s Q' hQ) (fun ht => h2 ht cy g2 hok.2 hm E β a w hE h0 s Q' hQ)
  all_goals grind

def blockQ (id : Nat) (Q : AExit → Nat → AState → Prop) : AExit → Nat → AState → Prop
  | .exit i, nx, S => if i = id then Q .normal nx S else Q (.exit i) nx S
  | e, nx, S => Q e nx S

theorem Awp.block {id : Nat} {x : ACode} (h : Awp P n bs x nx S (blockQ id Q)) : Awp P n bs (.block id x) nx S Q := fun code hc hok hm E β a w hE h0 s Q' hQ => by
  cases code <;> simp [compCode] at hc
  case block id' cx =>
    obtain ⟨h1, rfl⟩ := hc
    refine wp_block (h cx h1 hok hm E β a w hE h0 s _ fun e nx' S' β' a' w' q s' => ?_)
    cases e with
    | normal => exact hQ .normal _ _ β' a' w' q s'
    | exit i =>
      simp only [blockQ] at q
      simp only [AExit.conv, Exit.inBlock]
      split at q
      · rename_i hi; subst hi; simp only [if_true]; exact hQ .normal _ _ β' a' w' q s'
      · rename_i hi; rw [if_neg (by simpa using hi)]; exact hQ (.exit i) _ _ β' a' w' q s'
    | ret => exact hQ .ret _ _ β' a' w' q s'
  all_goals grind

/-- Another view: whatever fits S fits S'. -/
def Ghost (bs nx : Nat) (S : AState) (nx' : Nat) (S' : AState) : Prop :=
  ∀ E β a w, E.fits bs → Sim E (fun k => nx ≤ k) S β a w → ∃ β', Sim E (fun k => nx' ≤ k) S' β' a w

theorem Ghost.trans {bs n1 n2 n3 : Nat} {S1 S2 S3 : AState} (h : Ghost bs n1 S1 n2 S2) (k : Ghost bs n2 S2 n3 S3) : Ghost bs n1 S1 n3 S3 := fun E β a w h0 s => by
  obtain ⟨β', s'⟩ := h E β a w h0 s
  exact k E β' a w h0 s'

theorem Awp.ghost {nx' : Nat} {S' : AState} {c : ACode} (g : Ghost bs nx S nx' S') (h : Awp P n bs c nx' S' Q) : Awp P n bs c nx S Q := fun code hc hok hm E β a w hE h0 s Q' hQ => by
  obtain ⟨β', s'⟩ := g E β a w h0 s
  exact h code hc hok hm E β' a w hE h0 s' Q' hQ

def loopQ (K : Nat → AState → Prop) (Q : AExit → Nat → AState → Prop) : AExit → Nat → AState → Prop
  | .normal, nx, S => K nx S
  | e, nx, S => Q e nx S

/-- A loop: at each round's head the state is one of 'St x', x as 'Inv' says, and 'm' falls. -/
theorem Awp.loop {c : ACode} {α : Type} (Inv : α → Prop) (N : Nat) (St : α → AState) (m : α → Nat) (x0 : α) (h0 : Inv x0) (g0 : Ghost bs nx S N (St x0))
    (hr : ∀ x, Inv x → Awp P n bs c N (St x) (loopQ (fun nx' S' => ∃ y, Inv y ∧ m y < m x ∧ Ghost bs nx' S' N (St y)) Q)) : Awp P n bs (.loop c) nx S Q := fun code hc hok hm E β a w hE hβ s Q' hQ => by
  cases code <;> simp [compCode] at hc
  case loop cx =>
    obtain ⟨β0, s0⟩ := g0 E β a w hβ s
    have hmeas : ∀ (a : Act) (w : World), (∃ x β, Inv x ∧ Sim E (fun k => N ≤ k) (St x) β a w) → ∃ k x β, Inv x ∧ Sim E (fun k => N ≤ k) (St x) β a w ∧ m x = k := fun a w ⟨x, β, h1, h2⟩ => ⟨_, x, β, h1, h2, rfl⟩
    -- by the least measure of a state that fits
    have least : ∀ (a : Act) (w : World), (∃ k x β, Inv x ∧ Sim E (fun k => N ≤ k) (St x) β a w ∧ m x = k) → ∃ k, (∃ x β, Inv x ∧ Sim E (fun k => N ≤ k) (St x) β a w ∧ m x = k) ∧ ∀ j, (∃ x β, Inv x ∧ Sim E (fun k => N ≤ k) (St x) β a w ∧ m x = j) → k ≤ j := by
      intro a w ⟨k, hk⟩
      induction k using Nat.strongRecOn with
      | _ k ih =>
        by_cases h : ∃ j, j < k ∧ ∃ x β, Inv x ∧ Sim E (fun k => N ≤ k) (St x) β a w ∧ m x = j
        · obtain ⟨j, hj, hx⟩ := h
          exact ih j hj hx
        · refine ⟨k, hk, fun j hj => ?_⟩
          rcases Nat.lt_or_ge j k with hlt | hge
          · exact absurd ⟨j, hlt, hj⟩ h
          · exact hge
    open Classical in
    refine wp_loop (fun a w => ∃ x β, Inv x ∧ Sim E (fun k => N ≤ k) (St x) β a w) (fun a w => if h : ∃ k x β, Inv x ∧ Sim E (fun k => N ≤ k) (St x) β a w ∧ m x = k then Classical.choose (least a w h) else 0) ⟨x0, β0, h0, s0⟩ (fun a w hI => ?_)
    have hk := hmeas a w hI
    have hc1 := Classical.choose_spec (least a w hk)
    obtain ⟨⟨x, β1, hx, s1, hmx⟩, hle⟩ := hc1
    refine hr x hx cx hc hok hm E β1 a w hE hβ s1 _ fun e nx' S' β' a' w' q s' => ?_
    cases e with
    | normal =>
      obtain ⟨y, hy, hlt, g⟩ := q
      obtain ⟨β2, s2⟩ := g E β' a' w' hβ s'
      have hI2 : ∃ x β, Inv x ∧ Sim E (fun k => N ≤ k) (St x) β a' w' := ⟨y, β2, hy, s2⟩
      refine ⟨hI2, ?_⟩
      have hk2 := hmeas a' w' hI2
      have hc2 := (Classical.choose_spec (least a' w' hk2)).2 (m y) ⟨y, β2, hy, s2, rfl⟩
      rw [dif_pos hk, dif_pos hk2]
      omega
    | exit i => exact hQ (.exit i) _ _ β' a' w' q s'
    | ret => exact hQ .ret _ _ β' a' w' q s'
  all_goals grind
end rules

end Go.Ab
namespace Go.Ab
open Go.RowKit

def lk {α : Type} (d : α) : List (Nat × α) → Nat → α
  | [], _ => d
  | (k, x) :: r, n => if n = k then x else lk d r n
/-- A state written out. -/
def mkS (ts : List (Nat × AV)) (hs : List (Nat × Blk)) : AState := ⟨lk .any ts, listH hs⟩

/-- A value with its own blocks taken for memory that nobody writes any more. -/
inductive Lower (h : Nat → Option Blk) : AV → AV → Prop
  | same (x : AV) (hx : x.flat = true) : Lower h x x
  | any (x : AV) : Lower h x .any
  | nil0 : Lower h .nils (.sl [])
  | full (es : List (List AV)) (sz : Nat) (e : TypeId) : Lower h (.slf es sz e) (.sl es)
  | mapv {b : Nat} {ks : List ByteArray} {vs : List AV} (hb : h b = some (.map ks vs)) : Lower h (.mapv b) (.mpf ks vs)
  | own {b es sz e} (hb : h b = some (.row es sz e)) : Lower h (.own b) (.sl es)
  | ext {b L es ys sz e} (hb : h b = some (.rowS es ys sz e)) (hy : ys ≠ []) (hL : es ++ ys = L) : Lower h (.ext b L) (.sl L)
  | pre {b k es sz e} (hb : h b = some (.row es sz e)) (hk : k ≤ es.length) : Lower h (.pre b k) (.sl (es.take k))
  | bp {b o cs cs'} (hb : h b = some (.box cs)) (hl : cs.length = cs'.length) (ho : o ≤ cs.length) (hr : ∀ j, j < cs.length → Lower h (av cs j) (av cs' j)) : Lower h (.bp b o) (.rp (cs'.drop o))
  | ep {b sz i o es e} (hb : h b = some (.row es sz e)) (hi : i < es.length) : Lower h (.ep b sz i o) (.rp ((es.getD i []).drop o))
  | agg {cs cs'} (hl : cs.length = cs'.length) (hr : ∀ j, j < cs.length → Lower h (av cs j) (av cs' j)) : Lower h (.agg cs) (.agg cs')
  | tup {cs cs'} (hl : cs.length = cs'.length) (hr : ∀ j, j < cs.length → Lower h (av cs j) (av cs' j)) : Lower h (.tup cs) (.tup cs')
  | fn {f cs cs'} (hl : cs.length = cs'.length) (hr : ∀ j, j < cs.length → Lower h (av cs j) (av cs' j)) : Lower h (.fn f cs) (.fn f cs')

theorem Lower.sound {st st' : Nat → Prop} {β : Nat → Value} {w : World} {h : Nat → Option Blk} (hb : ∀ n b, h n = some b → BlkRep st β w b (β n)) (hst : ∀ g, st g → st' g) (hl : ∀ n b g, h n = some b → blkOf (β n) = some g → st' g) {x y : AV}
    (p : Lower h x y) : ∀ {c}, SimV st β w x c → PureV st' w y c := by
  have mono : ∀ {x c}, PureV st w x c → PureV st' w x c := fun p => p.mono fun g hg => ⟨hst g hg, rfl⟩
  induction p with
  | same x hx => exact fun s => mono (s.flat hx)
  | any x => exact fun _ => .any _
  | nil0 => intro c s; obtain ⟨a, rfl⟩ := s.nils_inv; exact .slE a 0 (Nat.zero_le _)
  | full es sz e =>
    intro c s
    obtain ⟨g, xs, rfl, hg, hf⟩ := s.slf_inv
    exact mono (pure_of_row hf fun k hk => by
      have : k = g := by simp only [blkOf] at hk; split at hk <;> simp_all
      subst this; exact hg)
  | own hB =>
    intro c s
    obtain ⟨rfl, _⟩ := s.own_inv
    obtain ⟨xs, hf⟩ := hb _ _ hB
    exact pure_of_row ⟨hf.z, hf.pos, hf.row, hf.one, fun i j hi hj => mono (hf.cell i j hi hj)⟩ (fun g hg => hl _ _ g hB hg)
  | @ext b L es ys sz e hB hy hL =>
    intro c s
    rcases s.ext_inv with ⟨g, n, cap, h1, h2, rfl⟩ | h1
    · subst hL
      rw [List.length_append] at h2 ⊢
      obtain ⟨_, h3⟩ := hb _ _ hB
      obtain ⟨xs, hf⟩ := h3 g n cap h1 h2 hy
      have hpos : 0 < ys.length := List.length_pos_iff.2 hy
      exact pure_of_row (xs := xs) ⟨hf.z, hf.pos, hf.row, hf.one, fun i j hi hj => mono (hf.cell i j hi hj)⟩ (fun g' hg => hl _ _ g' hB (by
        rw [h1]
        simp only [blkOf] at hg ⊢
        rw [if_neg (by omega)] at hg ⊢
        exact hg))
    · exact mono h1
  | @pre b k es sz e hB hk =>
    intro c s
    obtain ⟨a, m, cap, cap', h1, rfl, h2, h3⟩ := s.pre_inv
    obtain ⟨xs, hf⟩ := hb _ _ hB
    by_cases h0 : k = 0
    · subst h0
      exact .slE a cap' h3
    · rcases hf.row with ⟨a', h5, h6, _⟩ | ⟨g, cap2, h5, h6, h7⟩
      · omega
      · have hab : a = some ⟨g, 0, none⟩ := by rw [h1] at h5; simp at h5; exact h5.1
        subst hab
        have hlt : (es.take k).length = k := by simp; omega
        have hat : ∀ i, i < k → (es.take k).getD i [] = es.getD i [] := fun i hi => by simp [List.getD_eq_getElem?_getD, List.getElem?_take_of_lt hi]
        have hst' : st' g := hl _ _ g hB (by rw [h5]; simp [blkOf]; omega)
        have hres := PureV.slC (st := st') (w := w) (es.take k) g 0 cap' sz (fun i j => cv xs (i * sz + j)) (by omega) h3 hf.pos (fun e' => by rw [e'] at hlt; simp at hlt; omega) (fun x hx => hf.z x (List.mem_of_mem_take hx)) hst'
          (fun i j hi hj => by
            have hin : i * sz + j < xs.length := by rw [hf.row.len]; exact mul_in (by omega) hj
            rw [Nat.zero_add]
            exact ⟨hf.row.cellAt h5 _ hin, hf.one _ (cv_mem hin)⟩)
          (fun i j hi hj => by
            rw [hat i (by omega)]
            exact mono (hf.cell i j (by omega) hj))
        rw [hlt] at hres
        exact hres
  | @bp b o cs cs' hB hlen ho hr ih =>
    intro c s
    obtain ⟨g, h1, rfl⟩ := s.bp_inv
    obtain ⟨g', ty, xs, f1, f2, f3, f4, f5⟩ := hb _ _ hB
    rw [h1] at f1
    simp at f1
    subst f1
    refine .rp _ g o (fun j => cv xs (o + j)) (hl _ _ g hB (by rw [h1]; rfl)) (fun j hj => ?_) (fun j hj => ?_)
    · have hlt : o + j < xs.length := by simp at hj; omega
      refine ⟨?_, f4 _ (cv_mem hlt)⟩
      rw [cell_of_row w g (o + j) xs.toArray ty (0, 0) f2, ← cv_getElem? hlt]
      simp
    · have hlt : o + j < cs.length := by simp at hj; omega
      rw [av_drop]
      exact ih _ hlt (f5 _ hlt)
  | @ep b sz i o es e hB hi =>
    intro c s
    obtain ⟨g, n, cap, h1, rfl⟩ := s.ep_inv
    obtain ⟨xs, hf⟩ := hb _ _ hB
    have hz : (es.getD i []).length = sz := hf.z _ (by simp [List.getD_eq_getElem?_getD, hi])
    have hcap : blkOf (β b) = some g := by
      rcases hf.row with ⟨a, h2, h3, _⟩ | ⟨g', cap', h2, h3, _⟩
      · omega
      · rw [h2] at h1 ⊢; simp at h1; obtain ⟨rfl, _⟩ := h1; simp [blkOf]; omega
    refine .rp _ g (i * sz + o) (fun j => cv xs (i * sz + (o + j))) (hl _ _ g hB hcap) (fun j hj => ?_) (fun j hj => ?_)
    · have hlt : i * sz + (o + j) < xs.length := by rw [hf.row.len]; exact mul_in hi (by rw [List.length_drop, hz] at hj; omega)
      rw [Nat.add_assoc]
      exact ⟨hf.row.cellAt h1 _ hlt, hf.one _ (cv_mem hlt)⟩
    · rw [av_drop]
      exact mono (hf.cell i (o + j) hi (by rw [List.length_drop, hz] at hj; omega))
  | @mapv b ks vs hB =>
    intro c s
    obtain ⟨g, h1, rfl⟩ := s.mapv_inv
    obtain ⟨g', f, f1, f2, f3, f4⟩ := hb _ _ hB
    rw [h1] at f1
    simp at f1
    subst f1
    exact .mpf ks vs g f (hl _ _ g hB (by rw [h1]; rfl)) f2 f3 fun i hi => mono (f4 i hi)
  | agg hlen hr ih =>
    intro c s
    obtain ⟨xs, rfl, h1, h2, h3⟩ := s.agg_inv
    exact .agg _ xs (by omega) h2 fun j hj => ih j (by omega) (h3 j (by omega))
  | tup hlen hr ih =>
    intro c s
    obtain ⟨xs, rfl, h1, h3⟩ := s.tup_inv
    exact .tup _ xs (by omega) fun j hj => ih j (by omega) (h3 j (by omega))
  | fn hlen hr ih =>
    intro c s
    obtain ⟨xs, rfl, h1, h3⟩ := s.fn_inv
    exact .fn _ _ xs (by omega) fun j hj => ih j (by omega) (h3 j (by omega))

/-- Another view of a value: some things forgotten, the names turned, dead blocks taken for memory that nobody writes. -/
inductive View (hd : Nat → Option Blk) (ρ : Nat → Nat) (nx : Nat) : AV → AV → Prop
  | any (x) : View hd ρ nx x .any
  | low {x y} (h : Lower hd x y) : View hd ρ nx x y
  | agg {cs cs'} (hl : cs.length = cs'.length) (hr : ∀ j, j < cs.length → View hd ρ nx (av cs j) (av cs' j)) : View hd ρ nx (.agg cs) (.agg cs')
  | tup {cs cs'} (hl : cs.length = cs'.length) (hr : ∀ j, j < cs.length → View hd ρ nx (av cs j) (av cs' j)) : View hd ρ nx (.tup cs) (.tup cs')
  | fn {f cs cs'} (hl : cs.length = cs'.length) (hr : ∀ j, j < cs.length → View hd ρ nx (av cs j) (av cs' j)) : View hd ρ nx (.fn f cs) (.fn f cs')
  | own {b n} (hb : ρ n = b) (hn : n < nx) : View hd ρ nx (.own b) (.own n)
  | pre {b n k} (hb : ρ n = b) (hn : n < nx) : View hd ρ nx (.pre b k) (.pre n k)
  | bp {b n o} (hb : ρ n = b) (hn : n < nx) : View hd ρ nx (.bp b o) (.bp n o)
  | ep {b n sz i o} (hb : ρ n = b) (hn : n < nx) : View hd ρ nx (.ep b sz i o) (.ep n sz i o)
  | mapv {b n} (hb : ρ n = b) (hn : n < nx) : View hd ρ nx (.mapv b) (.mapv n)

inductive BView (hd : Nat → Option Blk) (ρ : Nat → Nat) (nx : Nat) : Blk → Blk → Prop
  | box {cs cs'} (hl : cs.length = cs'.length) (hr : ∀ j, j < cs.length → View hd ρ nx (av cs j) (av cs' j)) : BView hd ρ nx (.box cs) (.box cs')
  | row (es sz e) : BView hd ρ nx (.row es sz e) (.row es sz e)
  | iter (s pos) : BView hd ρ nx (.iter s pos) (.iter s pos)
  | rowX {es es' sz e} (hl : es'.length = es.length) (hz : ∀ x ∈ es', x.length = sz) (hr : ∀ i j, i < es.length → j < sz → Lower hd (av (es.getD i []) j) (av (es'.getD i []) j)) : BView hd ρ nx (.rowX es sz e) (.row es' sz e)
  | map (ks vs) : BView hd ρ nx (.map ks vs) (.map ks vs)

def renβ (β : Nat → Value) (ρ : Nat → Nat) (nx : Nat) (n : Nat) : Value := if n < nx then β (ρ n) else undef

theorem View.sound {st st' : Nat → Prop} {β : Nat → Value} {w : World} {hd : Nat → Option Blk} {ρ : Nat → Nat} {nx : Nat} (hb : ∀ n b, hd n = some b → BlkRep st β w b (β n)) (hst : ∀ g, st g → st' g) (hl : ∀ n b g, hd n = some b → blkOf (β n) = some g → st' g) {x y : AV}
    (p : View hd ρ nx x y) : ∀ {c}, SimV st β w x c → SimV st' (renβ β ρ nx) w y c := by
  induction p with
  | any x => exact fun _ => .pure (.any _)
  | low h => exact fun s => .pure (h.sound hb hst hl s)
  | agg hlen hr ih =>
    intro c s
    obtain ⟨xs, rfl, h1, h2, h3⟩ := s.agg_inv
    exact .agg _ xs (by omega) h2 fun j hj => ih j (by omega) (h3 j (by omega))
  | tup hlen hr ih =>
    intro c s
    obtain ⟨xs, rfl, h1, h3⟩ := s.tup_inv
    exact .tup _ xs (by omega) fun j hj => ih j (by omega) (h3 j (by omega))
  | fn hlen hr ih =>
    intro c s
    obtain ⟨xs, rfl, h1, h3⟩ := s.fn_inv
    exact .fn _ _ xs (by omega) fun j hj => ih j (by omega) (h3 j (by omega))
  | @own b n hbn hn =>
    intro c s
    obtain ⟨h1, a, m, cap, rfl⟩ := s.own_inv
    exact .own n (by simp only [renβ, if_pos hn, hbn]; exact h1.symm)
  | @pre b n k hbn hn =>
    intro c s
    obtain ⟨a, m, cap, cap', h1, rfl, h2, h3⟩ := s.pre_inv
    exact .pre n k (by simp only [renβ, if_pos hn, hbn]; exact h1) h2 h3
  | @bp b n o hbn hn =>
    intro c s
    obtain ⟨g, h1, rfl⟩ := s.bp_inv
    exact .bp n o (by simp only [renβ, if_pos hn, hbn]; exact h1)
  | @ep b n sz i o hbn hn =>
    intro c s
    obtain ⟨g, m, cap, h1, rfl⟩ := s.ep_inv
    exact .ep n sz i o (by simp only [renβ, if_pos hn, hbn]; exact h1)
  | @mapv b n hbn hn =>
    intro c s
    obtain ⟨g, h1, rfl⟩ := s.mapv_inv
    exact .mapv n (by simp only [renβ, if_pos hn, hbn]; exact h1)

/-- The ghost step. -/
theorem Ghost.view {bs nx nx' : Nat} {S S' : AState} (ρ : Nat → Nat) (hd : Nat → Option Blk) (hbs : ∀ n, n < bs → ρ n = n ∧ n < nx')
    (hdd : ∀ b blk, hd b = some blk → bs = 0 ∧ S.h b = some blk ∧ ∀ n blk', S'.h n = some blk' → ρ n ≠ b)
    (ht : ∀ t, View hd ρ nx' (S.t t) (S'.t t)) (hh : ∀ n blk', S'.h n = some blk' → n < nx' ∧ ∃ blk, S.h (ρ n) = some blk ∧ BView hd ρ nx' blk blk')
    (hi : ∀ n m b b', S'.h n = some b → S'.h m = some b' → ρ n = ρ m → n = m) : Ghost bs nx S nx' S' := by
  intro E β a w hE s
  have hst : ∀ g, E.st w β S.h g → E.st w (renβ β ρ nx') S'.h g := by
    intro g ⟨h1, h2, h3⟩
    refine ⟨h1, h2, fun n b hb => ?_⟩
    obtain ⟨hn, blk, h4, _⟩ := hh n b hb
    simp only [renβ, if_pos hn]
    exact h3 _ _ h4
  have hbl : ∀ n b, hd n = some b → BlkRep (E.st w β S.h) β w b (β n) := fun n b hb => s.bl n b (hdd n b hb).2.1
  have hlv : ∀ n b g, hd n = some b → blkOf (β n) = some g → E.st w (renβ β ρ nx') S'.h g := by
    intro n b g hb hg
    obtain ⟨h0, h1, h2⟩ := hdd n b hb
    refine ⟨(s.bl n b h1).lt hg, ?_, fun m b' hm hg' => ?_⟩
    · rcases s.mine n b g h1 hg with h | h
      · exact absurd h (hE.2 h0 g)
      · exact .inr h
    · obtain ⟨hn, blk, h4, _⟩ := hh m b' hm
      simp only [renβ, if_pos hn] at hg'
      exact h2 m b' hm (s.inj _ _ _ _ g h4 h1 hg' hg)
  refine ⟨renβ β ρ nx', ⟨fun t => (ht t).sound hbl hst hlv (s.tm t), s.sz, s.df, fun n b hb => ?_, fun n m b b' g hb hb' hg hg' => ?_, fun n hn => ?_, fun n b g hb hg => ?_, s.os, s.tape, s.out, s.size, s.keep, fun n hn => ?_⟩⟩
  · obtain ⟨hn, blk, h4, h5⟩ := hh n b hb
    have hr := s.bl _ _ h4
    simp only [renβ, if_pos hn]
    cases h5 with
    | box hl hv =>
      obtain ⟨g, ty, xs, f1, f2, f3, f4, f5⟩ := hr
      exact ⟨g, ty, xs, f1, f2, by omega, f4, fun j hj => (hv j (by omega)).sound hbl hst hlv (f5 j (by omega))⟩
    | row es sz e =>
      obtain ⟨xs, f1, f2, f3, f4, f5⟩ := hr
      exact ⟨xs, f1, f2, f3, f4, fun i j hi hj => (f5 i j hi hj).mono fun g hg => ⟨hst g hg, rfl⟩⟩
    | iter q p => exact hr
    | rowX hl hz hlow =>
      obtain ⟨xs, f1, f2, f3, f4, f5⟩ := hr
      exact ⟨xs, hz, f2, by rw [hl]; exact f3, f4, fun i j hi hj => (hlow i j (by omega) hj).sound hbl hst hlv (f5 i j (by omega) hj)⟩
    | map ks vs =>
      obtain ⟨g, f, f1, f2, f3, f4⟩ := hr
      exact ⟨g, f, f1, f2, f3, fun i hi => (f4 i hi).mono fun g hg => ⟨hst g hg, rfl⟩⟩
  · obtain ⟨hn, blk, h4, _⟩ := hh n b hb
    obtain ⟨hm, blk', h5, _⟩ := hh m b' hb'
    simp only [renβ, if_pos hn, if_pos hm] at hg hg'
    exact hi n m b b' hb hb' (s.inj _ _ _ _ g h4 h5 hg hg')
  · simp only [renβ]; rw [if_neg (by omega)]
  · obtain ⟨hn, blk, h4, _⟩ := hh n b hb
    simp only [renβ, if_pos hn] at hg
    exact s.mine _ _ g h4 hg
  · have hb : n < bs := by
      rcases Nat.lt_or_ge n bs with h | h
      · exact h
      · exact absurd (hE.1 n h) hn
    obtain ⟨h1, h2⟩ := hbs n hb
    simp only [renβ, if_pos h2, h1]
    exact s.grow n hn

/-- A nil slice gets a name: a row without elements. -/
theorem Ghost.name {bs nx : Nat} {S : AState} (t sz : Nat) (e : TypeId) (ht : S.t t = .nils) (h0 : 0 < sz) : Ghost bs nx S (nx + 1) ⟨upd S.t t (.own nx), upd S.h nx (some (.row [] sz e))⟩ := by
  intro E β a w hE s
  have hv := s.tm t
  rw [ht] at hv
  obtain ⟨ad, hc⟩ := hv.nils_inv
  have hβ : β nx = undef := s.fresh nx (Nat.le_refl _)
  have hg : Grows β (upd β nx (.slice ad 0 0)) := fun n hn => by
    unfold upd; split
    · rename_i h; subst h; exact absurd hβ hn
    · rfl
  have hb0 : ∀ g, blkOf (Value.slice ad 0 0) ≠ some g := fun g => by cases ad <;> simp [blkOf]
  have hs := s.step (fr' := fun k => nx + 1 ≤ k) (S' := ⟨upd S.t t (.own nx), upd S.h nx (some (.row [] sz e))⟩) (β' := upd β nx (.slice ad 0 0)) (a' := a) (w' := w) (fun _ => False) (fun _ h => h.elim) rfl rfl rfl (Nat.le_refl _) (fun _ _ _ => rfl) hg
    (fun n hn => by unfold upd; rw [if_neg (by omega)]; exact s.fresh n (by omega)) (fun n b hb => ?_) ?_ rfl s.df (fun hst => fun q => ?_)
  · exact ⟨_, hs⟩
  · simp only [upd] at hb
    split at hb
    · rename_i h; subst h
      simp only [Option.some.injEq] at hb; subst hb
      refine .inr ⟨fun _ => ?_, fun g hg => by simp only [upd, if_true] at hg; exact absurd hg (hb0 g)⟩
      simp only [upd, if_true]
      exact ⟨[], by simp, h0, .inl ⟨ad, rfl, rfl, rfl⟩, by simp, fun i j hi => by simp at hi⟩
    · exact .inl ⟨hb, fun _ _ => id⟩
  · intro n m b1 b2 g h1 h2 g1 g2
    simp only [upd] at h1 h2 g1 g2
    by_cases e1 : n = nx
    · rw [if_pos e1] at g1; exact absurd g1 (hb0 g)
    · by_cases e2 : m = nx
      · rw [if_pos e2] at g2; exact absurd g2 (hb0 g)
      · simp only [if_neg e1, if_neg e2] at h1 h2 g1 g2
        exact s.inj n m b1 b2 g h1 h2 g1 g2
  · simp only [upd]
    by_cases hq : q = t
    · subst hq
      rw [if_pos rfl, hc]
      exact .own nx (by simp [upd])
    · rw [if_neg hq]
      exact (s.tm q).mono hg hst

end Go.Ab
namespace Go.Ab
open Go.RowKit

structure Keeps (w w' : World) : Prop where
  os : w'.os = w.os
  tape : w'.tape = w.tape
  out : w'.output = w.output
  size : w.heap.size ≤ w'.heap.size
  heap : ∀ g, g < w.heap.size → w'.heap[g]? = w.heap[g]?

def PArgs (ok : Nat → Prop) (w : World) (args : List AV) (cs : List Value) : Prop :=
  args.length = cs.length ∧ ∀ j, j < args.length → PureV (fun g => g < w.heap.size ∧ ok g) w (av args j) (cv cs j)

/-- Called with what reads as 'args' it returns what reads as 'r', and turns nothing that was there. -/
def Pure (P : Program) (f : FuncId) (args : List AV) (r : AV) : Prop :=
  Callable P f ∧ ∀ (ok : Nat → Prop) (w : World) (cs : List Value), PArgs ok w args cs →
    Calls P f cs.toArray w fun e w' => ∃ c, e = .returned c ∧ Keeps w w' ∧ PureV (fun g => g < w'.heap.size ∧ (ok g ∨ w.heap.size ≤ g)) w' r c

/-- The same; what it returns is a slice that owns a new row. -/
def PureOwn (P : Program) (f : FuncId) (args : List AV) (es : List (List AV)) (sz : Nat) (ty : TypeId) : Prop :=
  Callable P f ∧ ∀ (ok : Nat → Prop) (w : World) (cs : List Value), PArgs ok w args cs →
    Calls P f cs.toArray w fun e w' => ∃ c, e = .returned c ∧ Keeps w w' ∧ (∃ a n cap, c = .slice a n cap) ∧ (∃ xs, RowFits (fun g => g < w'.heap.size ∧ (ok g ∨ w.heap.size ≤ g) ∧ blkOf c ≠ some g) w' es sz ty c xs) ∧ ∀ g, blkOf c = some g → w.heap.size ≤ g

/-- No memory in it. -/
inductive Dry : AV → Prop
  | v (x) : Dry (.v x)
  | any : Dry .any
  | nils : Dry .nils
  | slE : Dry (.sl [])
  | agg {cs} (h : ∀ c ∈ cs, Dry c) : Dry (.agg cs)
  | tup {cs} (h : ∀ c ∈ cs, Dry c) : Dry (.tup cs)

theorem av_mem {cs : List AV} {j : Nat} (h : j < cs.length) : av cs j ∈ cs := by simp [av, List.getD_eq_getElem?_getD, h]

theorem Dry.mono {st st' : Nat → Prop} {w : World} {x : AV} (d : Dry x) : ∀ {c}, PureV st w x c → PureV st' w x c := by
  induction d with
  | v x => intro c p; cases p; exact .v _
  | any => intro c p; exact .any _
  | nils => intro c p; cases p; exact .nils _
  | slE =>
    intro c p
    cases p with
    | slE a cap hc => exact .slE a cap hc
    | slC es g off cap sz f hc hm h0 hne => exact absurd rfl hne
  | agg h ih => intro c p; cases p with | agg cs xs hl h1 hr => exact .agg _ xs hl h1 fun j hj => ih _ (av_mem hj) (hr j hj)
  | tup h ih => intro c p; cases p with | tup cs xs hl hr => exact .tup _ xs hl fun j hj => ih _ (av_mem hj) (hr j hj)

section use
variable {P : Program} {f : FuncId} {args args' : List AV} {hl : List (Nat × Blk)} {nm : Nat}

theorem lower_args {prov : Nat → Prop} {β : Nat → Value} {w : World} {cs : List Value} (hb : ∀ n b, listH hl n = some b → BlkRep (stb prov w β (listH hl)) β w b (β n)) (hv : Vals (stb prov w β (listH hl)) β w args cs)
    (hlen : args.length = args'.length) (hlow : ∀ j, j < args.length → Lower (listH hl) (av args j) (av args' j)) : PArgs (fun g => prov g ∨ ∃ n b, listH hl n = some b ∧ blkOf (β n) = some g) w args' cs := by
  refine ⟨by rw [← hlen]; exact hv.1, fun j hj => ?_⟩
  refine (hlow j (by omega)).sound hb (fun g hg => ⟨hg.1, .inl hg.2.1⟩) (fun n b g h1 h2 => ⟨(hb n b h1).lt h2, .inr ⟨n, b, h1, h2⟩⟩) (hv.2 j (by omega))

/-- Use of a contract at a call. -/
theorem CallC.pure {r : AV} (h : Pure P f args' r) (hlen : args.length = args'.length) (hlow : ∀ j, j < args.length → Lower (listH hl) (av args j) (av args' j)) (hd : hl = [] ∨ Dry r) : CallC P f args hl nm r [] := by
  refine ⟨h.1, fun prov β w cs hn hb hi hv => ?_⟩
  refine (h.2 _ w cs (lower_args hb hv hlen hlow)).mono fun e w' ⟨c, he, hk, hp⟩ => ⟨c, β, he, hk.os, hk.tape, hk.out, hk.size, Grows.refl _, fun _ _ => rfl, fun g hg _ => hk.heap g hg, .pure ?_, fun n b _ hm => by simp at hm, hi⟩
  rcases hd with rfl | hd
  · exact hp.mono fun g ⟨h1, h2⟩ => ⟨⟨h1, h2.imp (fun h => h.elim id fun ⟨n, b, h3, _⟩ => by simp [listH] at h3) id, fun n b hb' => by simp [updL, listH] at hb'⟩, rfl⟩
  · exact hd.mono hp

theorem CallC.own {es : List (List AV)} {sz : Nat} {ty : TypeId} (h : PureOwn P f args' es sz ty) (hlen : args.length = args'.length) (hlow : ∀ j, j < args.length → Lower (listH hl) (av args j) (av args' j)) (hnm : nm ∉ hl.map (·.1)) (hd : hl = [] ∨ ∀ y ∈ es, ∀ c ∈ y, Dry c) :
    CallC P f args hl nm (.own nm) [(nm, some (.row es sz ty))] := by
  refine ⟨h.1, fun prov β w cs hn hb hi hv => ?_⟩
  refine (h.2 _ w cs (lower_args hb hv hlen hlow)).mono fun e w' ⟨c, he, hk, ⟨a, m, cap, hc⟩, ⟨xs, hf⟩, hnew⟩ => ?_
  have hg : Grows β (upd β nm c) := fun k hk => by
    unfold upd; split
    · rename_i h; subst h; exact absurd hn hk
    · rfl
  have hlk : ∀ n, updL (listH hl) [(nm, some (Blk.row es sz ty))] n = if n = nm then some (.row es sz ty) else listH hl n := fun n => rfl
  have hne : ∀ n b, listH hl n = some b → n ≠ nm := fun n b h e => hnm (by subst e; exact List.mem_map.2 ⟨_, listH_mem h, rfl⟩)
  refine ⟨c, upd β nm c, he, hk.os, hk.tape, hk.out, hk.size, hg, fun n hn' => by simp [upd, hn'], fun g hg _ => hk.heap g hg, ?_, fun n b hb' hm => ?_, ?_⟩
  · subst hc; exact .own nm (by simp [upd])
  · have hm' : n = nm := by simpa using hm
    rw [hm'] at hb' ⊢
    rw [hlk, if_pos rfl] at hb'
    simp at hb'
    subst hb'
    simp only [upd, if_true]
    refine ⟨⟨xs, hf.z, hf.pos, hf.row, hf.one, fun i j hi' hj => ?_⟩, fun g hg => .inl (hnew g hg)⟩
    have hp := hf.cell i j hi' hj
    rcases hd with rfl | hd
    · refine hp.mono fun g ⟨h1, h2, h3⟩ => ⟨⟨h1, h2.imp (fun h => h.elim id fun ⟨n, b, h3, _⟩ => by simp [listH] at h3) id, fun n b hb' => ?_⟩, rfl⟩
      rw [hlk] at hb'
      by_cases hnn : n = nm
      · rw [hnn]; simp only [upd, if_true]; exact h3
      · rw [if_neg hnn] at hb'; simp [listH] at hb'
    · have hel : es.getD i [] ∈ es := by simp [List.getD_eq_getElem?_getD, hi']
      exact (hd _ hel _ (av_mem (by rw [hf.z _ hel]; exact hj))).mono hp
  · intro n m b b' g h1 h2 g1 g2
    rw [hlk] at h1 h2
    by_cases e1 : n = nm <;> by_cases e2 : m = nm
    · rw [e1, e2]
    · rw [if_neg e2] at h2
      simp only [upd, if_pos e1, if_neg e2] at g1 g2
      have := hnew g g1
      have := (hb m b' h2).lt g2
      omega
    · rw [if_neg e1] at h1
      simp only [upd, if_neg e1, if_pos e2] at g1 g2
      have := hnew g g2
      have := (hb n b h1).lt g1
      omega
    · rw [if_neg e1] at h1
      rw [if_neg e2] at h2
      simp only [upd, if_neg e1, if_neg e2] at g1 g2
      exact hi n m b b' g h1 h2 g1 g2
end use

/-! ### A function -/

/-- A result, read off the frame. -/
def resE (P : Program) (S : AState) : ResultVar → Eff
  | .tmp t => .ret (S.t t)
  | .cell a t => effLoad S.h (P.cellsOf t) (isAggB P t) (S.t a)
def resOk (P : Program) : ResultVar → Bool
  | .tmp _ => true
  | .cell _ t => (P.info? t).isSome && (P.underlying t).isSome && (isAggB P t || P.cellsOf t == 1)
def resV (l : List AV) : AV := match l with
  | [x] => x
  | l => .tup l

section fn
variable {P : Program} {E : Entry} {fr : Nat → Prop} {S : AState} {β : Nat → Value} {a : Act} {w : World}

theorem res_one (s : Sim E fr S β a w) (r : ResultVar) (hr : resOk P r = true) (side : (resE P S r).side) :
    ∃ c, ((match r with | .tmp t => pure (a.tmps.getD t undef) | .cell a' t => do loadVar t (← asAddr (a.tmps.getD a' undef)) : Sem Value)).run P w = .ok c w ∧ SimV (E.st w β S.h) β w (resE P S r).val c := by
  cases r with
  | tmp t => exact ⟨_, rfl, s.tm t⟩
  | cell ad t =>
    simp only [resOk, Bool.and_eq_true, Bool.or_eq_true, beq_iff_eq, Option.isSome_iff_exists] at hr
    obtain ⟨⟨⟨i, hi⟩, ⟨d, hu⟩⟩, ha⟩ := hr
    have hsz : P.cellsOf t = i.size := by simp [Program.cellsOf, hi]
    rw [hsz] at ha
    have hszE : resE P S (.cell ad t) = effLoad S.h i.size (isAggB P t) (S.t ad) := by simp only [resE, hsz]
    rw [hszE] at side ⊢
    obtain ⟨v, p, hp, h1, h2⟩ := load_run s hi hu ha (s.tm ad) side
    refine ⟨v, ?_, h2⟩
    simp only [hp]
    rw [hp] at h1
    simpa [Instr.loadAt, Instr.sureAddr, asAddr] using h1

def resSide (P : Program) (S : AState) : List ResultVar → Prop
  | [] => True
  | r :: l => (resE P S r).side ∧ resSide P S l
def resVals (P : Program) (S : AState) (l : List ResultVar) : List AV := l.map fun r => (resE P S r).val

theorem res_all (s : Sim E fr S β a w) : ∀ (l : List ResultVar), l.all (resOk P) = true → resSide P S l → ∃ cs : List Value,
    (l.mapM fun r => (match r with | .tmp t => pure (a.tmps.getD t undef) | .cell a' t => do loadVar t (← asAddr (a.tmps.getD a' undef)) : Sem Value)).run P w = .ok cs w ∧ Vals (E.st w β S.h) β w (resVals P S l) cs
  | [], _, _ => ⟨[], by simp, rfl, fun j hj => by simp [resVals] at hj⟩
  | r :: l, hok, hs => by
    simp only [List.all_cons, Bool.and_eq_true] at hok
    obtain ⟨c, h1, h2⟩ := res_one s r hok.1 hs.1
    obtain ⟨cs, h3, h4, h5⟩ := res_all s l hok.2 hs.2
    refine ⟨c :: cs, ?_, by simp [resVals] at h4 ⊢; exact h4, fun j hj => ?_⟩
    · simp only [List.mapM_cons, Sem.run_bind, h1, Result.andThen_ok, h3, Sem.run_pure]
    · cases j with
      | zero => simpa [av, cv, resVals] using h2
      | succ j =>
        have := h5 j (by simp [resVals] at hj ⊢; exact hj)
        simpa [av, cv, resVals] using this

theorem results_run (s : Sim E fr S β a w) {f : Func} (hok : f.results.toList.all (resOk P) = true) (hs : resSide P S f.results.toList) : ∃ c, (results f a.tmps).run P w = .ok c w ∧ SimV (E.st w β S.h) β w (resV (resVals P S f.results.toList)) c := by
  obtain ⟨cs, h1, h2, h3⟩ := res_all (P := P) s f.results.toList hok hs
  have hm : (f.results.mapM fun r => (match r with | .tmp t => pure (a.tmps.getD t undef) | .cell a' t => do loadVar t (← asAddr (a.tmps.getD a' undef)) : Sem Value)).run P w = .ok cs.toArray w := by
    rw [← Array.toArray_toList (xs := f.results), List.mapM_toArray]
    simp only [map_eq_pure_bind, Sem.run_bind, h1, Result.andThen_ok, Sem.run_pure]
  refine ⟨if h : cs.toArray.size = 1 then cs.toArray[0] else .tuple cs.toArray, ?_, ?_⟩
  · unfold results
    rw [Sem.run_bind]
    exact (congrArg (fun r => Result.andThen r fun (vs : Array Value) w' => Sem.run P (Pure.pure (if h : vs.size = 1 then vs[0] else Value.tuple vs)) w') hm)
  · match cs, h2, h3 with
    | [c], h2, h3 =>
      match hrv : resVals P S f.results.toList, h2, h3 with
      | [x], h2, h3 => simpa [resV, av, cv] using h3 0 (by simp)
    | [], h2, h3 =>
      match hrv : resVals P S f.results.toList, h2, h3 with
      | [], h2, h3 => exact .tup [] [] rfl (fun j hj => by simp at hj)
    | c :: d :: r, h2, h3 =>
      match hrv : resVals P S f.results.toList, h2, h3 with
      | x :: y :: q, h2, h3 => exact .tup _ (c :: d :: r) h2 h3
end fn

/-- What is asked of a function's text: closed, by the kernel. -/
structure FnFacts (P : Program) (f : FuncId) (fn : Func) (ac : ACode) (n : Nat) (rs : List ResultVar) : Prop where
  at_ : P.funcs[f]? = some fn
  nt : fn.ntmps = n
  rseq : fn.results.toList = rs
  name : (fn.name == "runtime.NumGoroutine") = false
  comp : fn.body.bind (compCode P) = some ac
  ok : ac.ok n = true
  mixed : P.follows .mixedOrders = true
  res : rs.all (resOk P) = true

theorem FnFacts.code {P : Program} {f : FuncId} {fn : Func} {ac : ACode} {n : Nat} {rs : List ResultVar} (h : FnFacts P f fn ac n rs) : ∃ code, fn.body = some code ∧ compCode P code = some ac := by
  have := h.comp
  simpa [Option.bind_eq_some_iff] using this
theorem FnFacts.callable {P : Program} {f : FuncId} {fn : Func} {ac : ACode} {n : Nat} {rs : List ResultVar} (h : FnFacts P f fn ac n rs) : Callable P f := by
  obtain ⟨code, h1, _⟩ := h.code
  exact ⟨fn, h.at_, by rw [h1]; rfl, h.name⟩

/-- A function's first state. -/
def S0 (args : List AV) : AState := ⟨av args, fun _ => none⟩

theorem sim_start {args : List AV} {cs : List Value} {ok : Nat → Prop} {w : World} (h : PArgs ok w args cs) (n : Nat) (hn : args.length ≤ n) :
    Sim { w0 := w, β0 := fun _ => undef, prov := ok, may := fun _ => False, n := n } (fun k => 0 ≤ k) (S0 args) (fun _ => undef) { tmps := cs.toArray ++ Array.replicate (n - cs.toArray.size) undef, defers := [] } w := by
  refine ⟨fun t => ?_, ?_, rfl, fun n b hb => by simp [S0] at hb, fun n m b b' g hb => by simp [S0] at hb, fun _ _ => rfl, fun n b g hb => by simp [S0] at hb, rfl, rfl, rfl, Nat.le_refl _, fun _ _ _ => rfl, Grows.refl _⟩
  · by_cases ht : t < args.length
    · have h1 := h.2 t ht
      have e : (cs.toArray ++ Array.replicate (n - cs.toArray.size) undef).getD t undef = cv cs t := by
        have hl : t < cs.length := by rw [← h.1]; exact ht
        rw [Array.getD_eq_getD_getElem?, Array.getElem?_append_left (by simpa using hl)]
        simp [cv, List.getD_eq_getElem?_getD]
      rw [e]
      exact .pure (h1.mono fun g hg => ⟨⟨hg.1, .inl hg.2, fun n b hb => by simp [S0] at hb⟩, rfl⟩)
    · have : (S0 args).t t = .any := by simp [S0, av, List.getD_eq_getElem?_getD, Nat.le_of_not_lt ht]
      rw [this]
      exact .pure (.any _)
  · have := h.1
    simp
    omega

section fns
variable {P : Program} {f : FuncId} {fn : Func} {ac : ACode} {n : Nat} {rs : List ResultVar} {args : List AV}

/-- A contract, out of the rules. -/
theorem fn_pure (F : FnFacts P f fn ac n rs) (hn : args.length ≤ n) {r : AV} (h : Awp P n 0 ac 0 (S0 args) fun e _ S => (e = .normal ∨ e = .ret) ∧ resSide P S rs ∧ Lower S.h (resV (resVals P S rs)) r) :
    Pure P f args r := by
  obtain ⟨code, hbody, hcomp⟩ := F.code
  refine ⟨F.callable, fun ok w cs ha => ?_⟩
  refine calls_of_wp F.at_ hbody ?_
  rw [F.nt]
  have s0 := sim_start ha n hn
  refine h code hcomp F.ok F.mixed { w0 := w, β0 := fun _ => undef, prov := ok, may := fun _ => False, n := n } _ _ w rfl ⟨fun _ _ => rfl, fun _ _ h => h⟩ s0 _ fun e nx S β a w' ⟨he, hs, hl⟩ s => ?_
  obtain ⟨c, hc, hv⟩ := results_run (f := fn) s (by rw [F.rseq]; exact F.res) (by rw [F.rseq]; exact hs)
  rw [F.rseq] at hv
  have fin : a.defers = [] ∧ ∃ v, (results fn a.tmps).run P w' = .ok v w' ∧ ∃ c, Ending.returned v = .returned c ∧ Keeps w w' ∧ PureV (fun g => g < w'.heap.size ∧ (ok g ∨ w.heap.size ≤ g)) w' r c := by
    refine ⟨s.df, c, hc, c, rfl, ⟨s.os, s.tape, s.out, s.size, fun g hg => s.keep g hg id⟩, ?_⟩
    refine hl.sound (β := β) s.bl (fun g hg => ⟨hg.1, hg.2.1⟩) (fun n b g hb hg => ⟨(s.bl n b hb).lt hg, ?_⟩) hv
    rcases s.mine n b g hb hg with h | h
    · exact h.elim
    · exact .inr h
  rcases he with rfl | rfl <;> exact fin

/-- The same, where the result is a slice that owns its row. -/
theorem fn_own (F : FnFacts P f fn ac n rs) (hn : args.length ≤ n) {es : List (List AV)} {sz : Nat} {ty : TypeId}
    (h : Awp P n 0 ac 0 (S0 args) fun e _ S => (e = .normal ∨ e = .ret) ∧ resSide P S rs ∧ ∃ b, resV (resVals P S rs) = .own b ∧ S.h b = some (.row es sz ty)) : PureOwn P f args es sz ty := by
  obtain ⟨code, hbody, hcomp⟩ := F.code
  refine ⟨F.callable, fun ok w cs ha => ?_⟩
  refine calls_of_wp F.at_ hbody ?_
  rw [F.nt]
  have s0 := sim_start ha n hn
  refine h code hcomp F.ok F.mixed { w0 := w, β0 := fun _ => undef, prov := ok, may := fun _ => False, n := n } _ _ w rfl ⟨fun _ _ => rfl, fun _ _ h => h⟩ s0 _ fun e nx S β a w' ⟨he, hs, b, hb, hB⟩ s => ?_
  obtain ⟨c, hc, hv⟩ := results_run (f := fn) s (by rw [F.rseq]; exact F.res) (by rw [F.rseq]; exact hs)
  rw [F.rseq] at hv
  rw [hb] at hv
  obtain ⟨hcβ, ad, m, cap, hcs⟩ := hv.own_inv
  have fin : a.defers = [] ∧ ∃ v, (results fn a.tmps).run P w' = .ok v w' ∧ ∃ c, Ending.returned v = .returned c ∧ Keeps w w' ∧ (∃ a n cap, c = .slice a n cap) ∧
      (∃ xs, RowFits (fun g => g < w'.heap.size ∧ (ok g ∨ w.heap.size ≤ g) ∧ blkOf c ≠ some g) w' es sz ty c xs) ∧ ∀ g, blkOf c = some g → w.heap.size ≤ g := by
    refine ⟨s.df, c, hc, c, rfl, ⟨s.os, s.tape, s.out, s.size, fun g hg => s.keep g hg id⟩, ⟨_, _, _, hcs⟩, ?_, fun g hg => ?_⟩
    · obtain ⟨xs, hf⟩ := s.bl b _ hB
      rw [← hcβ] at hf
      exact ⟨xs, hf.z, hf.pos, hf.row, hf.one, fun i j hi hj => (hf.cell i j hi hj).mono fun g hg => ⟨⟨hg.1, hg.2.1, by rw [hcβ]; exact hg.2.2 b _ hB⟩, rfl⟩⟩
    · rw [hcβ] at hg
      rcases s.mine b _ g hB hg with h | h
      · exact h.elim
      · exact h
  rcases he with rfl | rfl <;> exact fin
end fns

end Go.Ab
namespace Go.Ab
open Go.RowKit

@[go_sem] theorem putT_same (f : Nat → AV) (d : Nat) (x : AV) : putT f (some d) x d = x := by simp [putT, upd]
@[go_sem] theorem putT_ne (f : Nat → AV) (d t : Nat) (x : AV) (h : t ≠ d) : putT f (some d) x t = f t := by simp [putT, upd, h]
@[go_sem] theorem putT_none (f : Nat → AV) (x : AV) : putT f none x = f := rfl
@[go_sem] theorem upd_same {α : Type} (f : Nat → α) (d : Nat) (x : α) : upd f d x d = x := by simp [upd]
@[go_sem] theorem upd_ne {α : Type} (f : Nat → α) (d t : Nat) (x : α) (h : t ≠ d) : upd f d x t = f t := by simp [upd, h]
@[go_sem] theorem updL_nil {α : Type} (f : Nat → α) : updL f [] = f := rfl
@[go_sem] theorem updL_cons {α : Type} (f : Nat → α) (k : Nat) (x : α) (r : List (Nat × α)) : updL f ((k, x) :: r) = updL (upd f k x) r := rfl
@[go_sem] theorem S0_t (args : List AV) (n : Nat) : (S0 args).t n = av args n := rfl
@[go_sem] theorem S0_h (args : List AV) (n : Nat) : (S0 args).h n = none := rfl
@[go_sem] theorem av_zero (x : AV) (l : List AV) : av (x :: l) 0 = x := rfl
@[go_sem] theorem av_succ (x : AV) (l : List AV) (n : Nat) : av (x :: l) (n + 1) = av l n := rfl
@[go_sem] theorem av_nil (n : Nat) : av [] n = .any := rfl
@[go_sem] theorem mkS_t (ts : List (Nat × AV)) (hs : List (Nat × Blk)) : (mkS ts hs).t = lk .any ts := rfl
@[go_sem] theorem mkS_h (ts : List (Nat × AV)) (hs : List (Nat × Blk)) : (mkS ts hs).h = listH hs := rfl
@[go_sem] theorem lk_same {α : Type} (d : α) (k : Nat) (x : α) (r : List (Nat × α)) : lk d ((k, x) :: r) k = x := by simp [lk]
@[go_sem] theorem lk_ne {α : Type} (d : α) (k n : Nat) (x : α) (r : List (Nat × α)) (h : n ≠ k) : lk d ((k, x) :: r) n = lk d r n := by simp [lk, h]
@[go_sem] theorem lk_nil {α : Type} (d : α) (n : Nat) : lk d [] n = d := rfl
@[go_sem] theorem listH_same (k : Nat) (x : Blk) (r : List (Nat × Blk)) : listH ((k, x) :: r) k = some x := by simp [listH]
@[go_sem] theorem listH_ne (k n : Nat) (x : Blk) (r : List (Nat × Blk)) (h : n ≠ k) : listH ((k, x) :: r) n = listH r n := by simp [listH, h]
@[go_sem] theorem listH_nil (n : Nat) : listH [] n = none := rfl
@[go_sem] theorem app_mk (t : Nat → AV) (h : Nat → Option Blk) (d : Option Nat) (p : Prop) (v : AV) (u : Upd) (r : List Nat) : AState.app ⟨t, h⟩ d ⟨p, v, u, r⟩ = ⟨putT t d v, updL h u⟩ := rfl
@[go_sem] theorem app_S0 (args : List AV) (d : Option Nat) (p : Prop) (v : AV) (u : Upd) (r : List Nat) : AState.app (S0 args) d ⟨p, v, u, r⟩ = ⟨putT (av args) d v, updL (fun _ => none) u⟩ := rfl
@[go_sem] theorem app_mkS (ts : List (Nat × AV)) (hs : List (Nat × Blk)) (d : Option Nat) (p : Prop) (v : AV) (u : Upd) (r : List Nat) : AState.app (mkS ts hs) d ⟨p, v, u, r⟩ = ⟨putT (lk .any ts) d v, updL (listH hs) u⟩ := rfl
@[go_sem] theorem put_mk (t : Nat → AV) (h : Nat → Option Blk) (d : Option Nat) (v : AV) : AState.put ⟨t, h⟩ d v = ⟨putT t d v, h⟩ := rfl
@[go_sem] theorem evo_t (S : AState) (n : Nat) : evo S (.t n) = S.t n := rfl
@[go_sem] theorem evo_f (S : AState) (n : Nat) : evo S (.f n) = .fn n [] := rfl
@[go_sem] theorem evo_int (S : AState) (k : IntKind) (n : Int) : evo S (.c (.int k n)) = .v (.int k n) := rfl
@[go_sem] theorem evo_bool (S : AState) (b : Bool) : evo S (.c (.bool b)) = .v (.bool b) := rfl
@[go_sem] theorem evo_str (S : AState) (b : ByteArray) : evo S (.c (.string b)) = .v (.string b) := rfl
@[go_sem] theorem evo_nil (S : AState) : evo S (.c (.slice none 0 0)) = .nils := rfl
@[go_sem] theorem ofV_int (k : IntKind) (n : Int) : AV.ofV (.int k n) = .v (.int k n) := rfl
@[go_sem] theorem ofV_bool (b : Bool) : AV.ofV (.bool b) = .v (.bool b) := rfl
@[go_sem] theorem ofV_str (b : ByteArray) : AV.ofV (.string b) = .v (.string b) := rfl
@[go_sem] theorem ofV_nil : AV.ofV (.slice none 0 0) = .nils := rfl

/-- A guard, its value known. -/
def gval (x : AV) (want : Bool) (X Y : Prop) : Prop :=
  match x with
  | .v (.bool b) => (b = want → X) ∧ (b = (!want) → Y)
  | .tup [] => Y
  | _ => False
@[go_sem] theorem gval_u (want : Bool) (X Y : Prop) : gval (.tup []) want X Y = Y := rfl
theorem gval_intro {b want : Bool} {X Y : Prop} (h1 : b = want → X) (h2 : b = (!want) → Y) : gval (.v (.bool b)) want X Y := ⟨h1, h2⟩

@[go_sem] theorem aops_nil (P : Program) (nm : Nat) (S : AState) (K : AState → Prop) : aops P [] nm S K = K S := rfl
/-- An operation that is a call: simp stops here. -/
def aopsC (P : Program) (o : AOper) (r : List AOper) (nm : Nat) (S : AState) (K : AState → Prop) : Prop := aops P (o :: r) nm S K
def bcase (b : Bool) (X Y : Prop) : Prop := if b then X else Y
@[go_sem] theorem bcase_t (X Y : Prop) : bcase true X Y = X := rfl
@[go_sem] theorem bcase_f (X Y : Prop) : bcase false X Y = Y := rfl
@[go_sem] theorem aops_op (P : Program) (d : Option Nat) (op : AOp) (deps : List Nat) (r : List AOper) (nm : Nat) (S : AState) (K : AState → Prop) :
    aops P (⟨d, op, none, deps⟩ :: r) nm S K = bcase op.choosy (aopsC P ⟨d, op, none, deps⟩ r nm S K) ((op.eff P nm S default).side ∧ aops P r (nm + 1) (S.app d (op.eff P nm S default)) K) := by
  cases h : op.choosy
  · simp [bcase, aops, gcase, astep, h]
  · simp [bcase, aopsC]
@[go_sem] theorem aops_g (P : Program) (d : Option Nat) (op : AOp) (t : Nat) (want : Bool) (deps : List Nat) (r : List AOper) (nm : Nat) (S : AState) (K : AState → Prop) :
    aops P (⟨d, op, some (t, want), deps⟩ :: r) nm S K = gval (S.t t) want (aops P (⟨d, op, none, deps⟩ :: r) nm S K) (aops P r (nm + 1) (S.put d (.tup [])) K) := rfl
theorem aops_call {P : Program} {d : Option Nat} {op : AOp} {deps : List Nat} {r : List AOper} {nm : Nat} {S : AState} {K : AState → Prop} (an : Ans) (h : op.choosy = true) (hs : (op.eff P nm S an).side) (hk : aops P r (nm + 1) (S.app d (op.eff P nm S an)) K) :
    aopsC P ⟨d, op, none, deps⟩ r nm S K := by
  simp only [aopsC, aops, gcase, astep, h, if_true]
  exact ⟨an, hs, hk⟩

@[go_sem] theorem aopsL_nil (P : Program) (nm : Nat) (S : AState) (l : List Ent) (K : AState → List Ent → Prop) : aopsL P [] nm S l K = K S l := rfl
def aopsLC (P : Program) (o : AOper) (r : List AOper) (nm : Nat) (S : AState) (l : List Ent) (K : AState → List Ent → Prop) : Prop := aopsL P (o :: r) nm S l K
@[go_sem] theorem aopsL_op (P : Program) (d : Option Nat) (op : AOp) (deps : List Nat) (r : List AOper) (nm : Nat) (S : AState) (l : List Ent) (K : AState → List Ent → Prop) :
    aopsL P (⟨d, op, none, deps⟩ :: r) nm S l K = bcase op.choosy (aopsLC P ⟨d, op, none, deps⟩ r nm S l K) ((op.eff P nm S default).side ∧ aopsL P r (nm + 1) (S.app d (op.eff P nm S default)) (l ++ [⟨op.temps, (op.eff P nm S default).rd, d, (op.eff P nm S default).ups.map (·.1)⟩]) K) := by
  cases h : op.choosy
  · simp [bcase, aopsL, gcase, astepL, h, ent, gtemps]
  · simp [bcase, aopsLC]
@[go_sem] theorem aopsL_g (P : Program) (d : Option Nat) (op : AOp) (t : Nat) (want : Bool) (deps : List Nat) (r : List AOper) (nm : Nat) (S : AState) (l : List Ent) (K : AState → List Ent → Prop) :
    aopsL P (⟨d, op, some (t, want), deps⟩ :: r) nm S l K = bcase op.choosy (aopsLC P ⟨d, op, some (t, want), deps⟩ r nm S l K) (gval (S.t t) want ((op.eff P nm S default).side ∧ aopsL P r (nm + 1) (S.app d (op.eff P nm S default)) (l ++ [⟨t :: op.temps, (op.eff P nm S default).rd, d, (op.eff P nm S default).ups.map (·.1)⟩]) K)
      (aopsL P r (nm + 1) (S.put d (.tup [])) (l ++ [⟨[t], [], d, []⟩]) K)) := by
  cases h : op.choosy
  · have h1 : astepL P ⟨d, op, some (t, want), deps⟩ nm S (fun S' e => aopsL P r (nm + 1) S' (l ++ [e]) K) = ((op.eff P nm S default).side ∧ aopsL P r (nm + 1) (S.app d (op.eff P nm S default)) (l ++ [⟨t :: op.temps, (op.eff P nm S default).rd, d, (op.eff P nm S default).ups.map (·.1)⟩]) K) := by
      simp [astepL, h, ent, gtemps]
    show gcase (some (t, want)) S (astepL P ⟨d, op, some (t, want), deps⟩ nm S (fun S' e => aopsL P r (nm + 1) S' (l ++ [e]) K)) _ = _
    rw [h1]
    rfl
  · simp [bcase, aopsLC]
theorem aopsL_call {P : Program} {d : Option Nat} {op : AOp} {deps : List Nat} {r : List AOper} {nm : Nat} {S : AState} {l : List Ent} {K : AState → List Ent → Prop} (an : Ans) (h : op.choosy = true) (hs : (op.eff P nm S an).side)
    (hk : aopsL P r (nm + 1) (S.app d (op.eff P nm S an)) (l ++ [⟨op.temps, (op.eff P nm S an).rd, d, (op.eff P nm S an).ups.map (·.1)⟩]) K) :
    aopsLC P ⟨d, op, none, deps⟩ r nm S l K := by
  simp only [aopsLC, aopsL, gcase, astepL, h, if_true, ent, gtemps]
  exact ⟨an, hs, hk⟩
theorem aopsL_callg {P : Program} {d : Option Nat} {op : AOp} {t : Nat} {want : Bool} {deps : List Nat} {r : List AOper} {nm : Nat} {S : AState} {l : List Ent} {K : AState → List Ent → Prop} (h : op.choosy = true)
    (hk : gval (S.t t) want (∃ an, (op.eff P nm S an).side ∧ aopsL P r (nm + 1) (S.app d (op.eff P nm S an)) (l ++ [⟨t :: op.temps, (op.eff P nm S an).rd, d, (op.eff P nm S an).ups.map (·.1)⟩]) K) (aopsL P r (nm + 1) (S.put d (.tup [])) (l ++ [⟨[t], [], d, []⟩]) K)) :
    aopsLC P ⟨d, op, some (t, want), deps⟩ r nm S l K := by
  have h1 : astepL P ⟨d, op, some (t, want), deps⟩ nm S (fun S' e => aopsL P r (nm + 1) S' (l ++ [e]) K) = (∃ an, (op.eff P nm S an).side ∧ aopsL P r (nm + 1) (S.app d (op.eff P nm S an)) (l ++ [⟨t :: op.temps, (op.eff P nm S an).rd, d, (op.eff P nm S an).ups.map (·.1)⟩]) K) := by
    simp [astepL, h, ent, gtemps]
  show gcase (some (t, want)) S (astepL P ⟨d, op, some (t, want), deps⟩ nm S (fun S' e => aopsL P r (nm + 1) S' (l ++ [e]) K)) _
  rw [h1]
  exact hk

attribute [go_sem] AOp.choosy AOp.isCall AOp.eff Eff.ret Eff.iff

section eff
variable (k : IntKind) (a b : Int) (s s' : ByteArray)
@[go_sem] theorem bin_add : effBin .add (.v (.int k a)) (.v (.int k b)) = ⟨True, .v (.int k (k.wrap (a + b))), [], []⟩ := by simp [effBin, binE, Eff.iff]
@[go_sem] theorem bin_sub : effBin .sub (.v (.int k a)) (.v (.int k b)) = ⟨True, .v (.int k (k.wrap (a - b))), [], []⟩ := by simp [effBin, binE, Eff.iff]
@[go_sem] theorem bin_eql : effBin .eql (.v (.int k a)) (.v (.int k b)) = ⟨True, .v (.bool (a == b)), [], []⟩ := by simp [effBin, binE, Eff.iff]
@[go_sem] theorem bin_neq : effBin .neq (.v (.int k a)) (.v (.int k b)) = ⟨True, .v (.bool (a != b)), [], []⟩ := by simp [effBin, binE, Eff.iff]
@[go_sem] theorem bin_lss : effBin .lss (.v (.int k a)) (.v (.int k b)) = ⟨True, .v (.bool (decide (a < b))), [], []⟩ := by simp [effBin, binE, Eff.iff]
@[go_sem] theorem bin_leq : effBin .leq (.v (.int k a)) (.v (.int k b)) = ⟨True, .v (.bool (decide (a ≤ b))), [], []⟩ := by simp [effBin, binE, Eff.iff]
@[go_sem] theorem bin_gtr : effBin .gtr (.v (.int k a)) (.v (.int k b)) = ⟨True, .v (.bool (decide (b < a))), [], []⟩ := by simp [effBin, binE, Eff.iff]
@[go_sem] theorem bin_geq : effBin .geq (.v (.int k a)) (.v (.int k b)) = ⟨True, .v (.bool (decide (b ≤ a))), [], []⟩ := by simp [effBin, binE, Eff.iff]
@[go_sem] theorem bin_seql : effBin .eql (.v (.string s)) (.v (.string s')) = ⟨True, .v (.bool (s.toList == s'.toList)), [], []⟩ := by simp [effBin, binE, Eff.iff]
@[go_sem] theorem bin_sneq : effBin .neq (.v (.string s)) (.v (.string s')) = ⟨True, .v (.bool (!(s.toList == s'.toList))), [], []⟩ := by simp [effBin, binE, Eff.iff]
@[go_sem] theorem eqB_b (neg p q : Bool) : effEqB neg (.v (.bool p)) (.v (.bool q)) = ⟨True, .v (.bool (neg ^^ (p == q))), [], []⟩ := rfl
@[go_sem] theorem un_not (p : Bool) : effUn .not (.v (.bool p)) = ⟨True, .v (.bool (!p)), [], []⟩ := by simp [effUn, Eff.iff]
@[go_sem] theorem pick_b (p q t : Bool) : effPick (.v (.bool t)) (.v (.bool p)) (.v (.bool q)) = ⟨True, if t then .v (.bool p) else .v (.bool q), [], []⟩ := rfl
@[go_sem] theorem ite_vbool (t p q : Bool) : (if t then AV.v (.bool p) else AV.v (.bool q)) = .v (.bool (if t then p else q)) := by cases t <;> rfl
@[go_sem] theorem conv_int (k' : IntKind) : effConv k' (.v (.int k a)) = ⟨True, .v (.int k' (k'.wrap a)), [], []⟩ := rfl
@[go_sem] theorem min_int : effMinMax false (.v (.int k a)) (.v (.int k b)) = ⟨True, .v (.int k (if b < a then b else a)), [], []⟩ := by simp [effMinMax, Eff.iff]
@[go_sem] theorem max_int : effMinMax true (.v (.int k a)) (.v (.int k b)) = ⟨True, .v (.int k (if a < b then b else a)), [], []⟩ := by simp [effMinMax, Eff.iff]
@[go_sem] theorem extract_tup (vs : List AV) (i : Nat) : effExtract i (.tup vs) = ⟨i < vs.length, av vs i, [], []⟩ := rfl
@[go_sem] theorem lenStr_s : effLenStr (.v (.string s)) = ⟨True, .v (.int .i64 s.size), [], []⟩ := rfl
@[go_sem] theorem idxStr_s : effIdxStr (.v (.string s)) (.v (.int k a)) = ⟨0 ≤ a ∧ a < s.size, .v (.int .u8 ((s.data.getD a.toNat 0).toNat : Int)), [], []⟩ := rfl
@[go_sem] theorem fieldAddr_rp (o : Nat) (cs : List AV) : effFieldAddr o (.rp cs) = ⟨o < cs.length, .rp (cs.drop o), [], []⟩ := rfl
@[go_sem] theorem fieldAddr_bp (o c k : Nat) : effFieldAddr o (.bp c k) = ⟨True, .bp c (k + o), [], []⟩ := rfl
@[go_sem] theorem fieldAddr_ep (o c sz i k : Nat) : effFieldAddr o (.ep c sz i k) = ⟨True, .ep c sz i (k + o), [], []⟩ := rfl
@[go_sem] theorem field_agg (o n : Nat) (agg : Bool) (cs : List AV) : effField o n agg (.agg cs) = ⟨o + n ≤ cs.length, ofCells agg n (cs.drop o), [], []⟩ := rfl
@[go_sem] theorem ofCells_t (n : Nat) (cs : List AV) : ofCells true n cs = .agg (cs.take n) := rfl
@[go_sem] theorem ofCells_f (n : Nat) (cs : List AV) : ofCells false n cs = av cs 0 := rfl
@[go_sem] theorem len_sl (h : Nat → Option Blk) (es : List (List AV)) : effLen h (.sl es) = ⟨True, .v (.int .i64 es.length), [], []⟩ := rfl
@[go_sem] theorem len_nils (h : Nat → Option Blk) : effLen h .nils = ⟨True, .v (.int .i64 0), [], []⟩ := rfl
def lenO (c : Nat) : Option Blk → Eff
  | some (.row es _ _) => ⟨True, .v (.int .i64 es.length), [], [c]⟩
  | _ => .fail
@[go_sem] theorem len_own (h : Nat → Option Blk) (c : Nat) : effLen h (.own c) = lenO c (h c) := by
  simp only [effLen]; cases h c with
  | none => rfl
  | some b => cases b <;> rfl
@[go_sem] theorem lenO_row (c : Nat) (es : List (List AV)) (sz : Nat) (e : TypeId) : lenO c (some (.row es sz e)) = ⟨True, .v (.int .i64 es.length), [], [c]⟩ := rfl
def loadB (n : Nat) (agg : Bool) (c o : Nat) : Option Blk → Eff
  | some (.box cs) => ⟨o + n ≤ cs.length, ofCells agg n (cs.drop o), [], [c]⟩
  | _ => .fail
def loadE (n : Nat) (agg : Bool) (c sz i o : Nat) : Option Blk → Eff
  | some (.row es sz' _) => ⟨sz = sz' ∧ i < es.length ∧ o + n ≤ sz, ofCells agg n ((es.getD i []).drop o), [], [c]⟩
  | some (.rowX es sz' _) => ⟨sz = sz' ∧ i < es.length ∧ o + n ≤ sz, ofCells agg n ((es.getD i []).drop o), [], [c]⟩
  | _ => .fail
@[go_sem] theorem load_rp (h : Nat → Option Blk) (n : Nat) (agg : Bool) (cs : List AV) : effLoad h n agg (.rp cs) = ⟨n ≤ cs.length, ofCells agg n cs, [], []⟩ := rfl
@[go_sem] theorem load_bp (h : Nat → Option Blk) (n : Nat) (agg : Bool) (c o : Nat) : effLoad h n agg (.bp c o) = loadB n agg c o (h c) := by
  simp only [effLoad]; unfold loadB; cases h c <;> rfl
@[go_sem] theorem loadB_box (n : Nat) (agg : Bool) (c o : Nat) (cs : List AV) : loadB n agg c o (some (.box cs)) = ⟨o + n ≤ cs.length, ofCells agg n (cs.drop o), [], [c]⟩ := rfl
@[go_sem] theorem load_ep (h : Nat → Option Blk) (n : Nat) (agg : Bool) (c sz i o : Nat) : effLoad h n agg (.ep c sz i o) = loadE n agg c sz i o (h c) := by
  simp only [effLoad]; unfold loadE; cases h c with
  | none => rfl
  | some b => cases b <;> rfl
@[go_sem] theorem loadE_rowX (n : Nat) (agg : Bool) (c sz i o : Nat) (es : List (List AV)) (sz' : Nat) (e : TypeId) : loadE n agg c sz i o (some (.rowX es sz' e)) = ⟨sz = sz' ∧ i < es.length ∧ o + n ≤ sz, ofCells agg n ((es.getD i []).drop o), [], [c]⟩ := rfl
@[go_sem] theorem loadE_row (n : Nat) (agg : Bool) (c sz i o : Nat) (es : List (List AV)) (sz' : Nat) (e : TypeId) : loadE n agg c sz i o (some (.row es sz' e)) = ⟨sz = sz' ∧ i < es.length ∧ o + n ≤ sz, ofCells agg n ((es.getD i []).drop o), [], [c]⟩ := rfl
def storeB (n : Nat) (c o : Nat) (x : AV) : Option Blk → Eff
  | some (.box cs) => ⟨x.okCells ∧ x.cells.length = n ∧ o + n ≤ cs.length, .tup [], [(c, some (.box (splice cs o x.cells)))], [c]⟩
  | _ => .fail
def storeE (n : Nat) (c sz i o : Nat) (x : AV) : Option Blk → Eff
  | some (.row es sz' e) => ⟨x.okCells ∧ x.cells.length = n ∧ (∀ c ∈ x.cells, c.flat = true) ∧ sz = sz' ∧ i < es.length ∧ o + n ≤ sz, .tup [], [(c, some (.row (es.set i (splice (es.getD i []) o x.cells)) sz e))], [c]⟩
  | _ => .fail
@[go_sem] theorem store_bp (h : Nat → Option Blk) (n c o : Nat) (x : AV) : effStore h n (.bp c o) x = storeB n c o x (h c) := by
  simp only [effStore]; unfold storeB; cases h c <;> rfl
@[go_sem] theorem storeB_box (n c o : Nat) (x : AV) (cs : List AV) : storeB n c o x (some (.box cs)) = ⟨x.okCells ∧ x.cells.length = n ∧ o + n ≤ cs.length, .tup [], [(c, some (.box (splice cs o x.cells)))], [c]⟩ := rfl
@[go_sem] theorem store_ep (h : Nat → Option Blk) (n c sz i o : Nat) (x : AV) : effStore h n (.ep c sz i o) x = storeE n c sz i o x (h c) := by
  simp only [effStore]; unfold storeE; cases h c <;> rfl
@[go_sem] theorem storeE_row (n c sz i o : Nat) (x : AV) (es : List (List AV)) (sz' : Nat) (e : TypeId) : storeE n c sz i o x (some (.row es sz' e)) = ⟨x.okCells ∧ x.cells.length = n ∧ (∀ c ∈ x.cells, c.flat = true) ∧ sz = sz' ∧ i < es.length ∧ o + n ≤ sz, .tup [], [(c, some (.row (es.set i (splice (es.getD i []) o x.cells)) sz e))], [c]⟩ := rfl
@[go_sem] theorem idx_sl (h : Nat → Option Blk) (sz : Nat) (es : List (List AV)) : effIdxAddr h sz (.v (.int k a)) (.sl es) = ⟨0 ≤ a ∧ a < es.length ∧ (es.getD a.toNat []).length = sz, .rp (es.getD a.toNat []), [], []⟩ := rfl
def idxO (sz c : Nat) (n : Int) : Option Blk → Eff
  | some (.row es sz' _) => ⟨0 ≤ n ∧ n < es.length ∧ sz = sz', .ep c sz n.toNat 0, [], [c]⟩
  | some (.rowX es sz' _) => ⟨0 ≤ n ∧ n < es.length ∧ sz = sz', .ep c sz n.toNat 0, [], [c]⟩
  | _ => .fail
def idxP (sz c q : Nat) (a : Int) : Option Blk → Eff
  | some (.row es sz' _) => ⟨0 ≤ a ∧ a < q ∧ q ≤ es.length ∧ sz = sz', .ep c sz a.toNat 0, [], [c]⟩
  | _ => .fail
@[go_sem] theorem idxP_row (sz c q sz' : Nat) (a : Int) (es : List (List AV)) (e : TypeId) : idxP sz c q a (some (.row es sz' e)) = ⟨0 ≤ a ∧ a < q ∧ q ≤ es.length ∧ sz = sz', .ep c sz a.toNat 0, [], [c]⟩ := rfl
@[go_sem] theorem idx_pre (h : Nat → Option Blk) (sz c q : Nat) : effIdxAddr h sz (.v (.int k a)) (.pre c q) = idxP sz c q a (h c) := by
  simp only [effIdxAddr]; cases h c with
  | none => rfl
  | some b => cases b <;> rfl
@[go_sem] theorem len_pre (h : Nat → Option Blk) (c q : Nat) : effLen h (.pre c q) = ⟨True, .v (.int .i64 q), [], []⟩ := rfl
@[go_sem] theorem idx_own (h : Nat → Option Blk) (sz c : Nat) : effIdxAddr h sz (.v (.int k a)) (.own c) = idxO sz c a (h c) := by
  simp only [effIdxAddr]; cases h c with
  | none => rfl
  | some b => cases b <;> rfl
@[go_sem] theorem idxO_rowX (sz c : Nat) (n : Int) (es : List (List AV)) (sz' : Nat) (e : TypeId) : idxO sz c n (some (.rowX es sz' e)) = ⟨0 ≤ n ∧ n < es.length ∧ sz = sz', .ep c sz n.toNat 0, [], [c]⟩ := rfl
@[go_sem] theorem storeX_row (b sz i o n : Nat) (x : AV) (es : List (List AV)) (sz' : Nat) (e : TypeId) : storeX b sz i o n x (some (.row es sz' e)) = ⟨x.okCells ∧ x.cells.length = n ∧ sz = sz' ∧ i < es.length ∧ o + n ≤ sz, .tup [], [(b, some (.rowX (es.set i (splice (es.getD i []) o x.cells)) sz e))], [b]⟩ := rfl
@[go_sem] theorem storeX_ep (h : Nat → Option Blk) (n c sz i o : Nat) (x : AV) : effStoreX h n (.ep c sz i o) x = storeX c sz i o n x (h c) := rfl
@[go_sem] theorem idxO_row (sz c : Nat) (n : Int) (es : List (List AV)) (sz' : Nat) (e : TypeId) : idxO sz c n (some (.row es sz' e)) = ⟨0 ≤ n ∧ n < es.length ∧ sz = sz', .ep c sz n.toNat 0, [], [c]⟩ := rfl
@[go_sem] theorem idxArr_agg (ln sz : Nat) (agg : Bool) (cs : List AV) : effIdxArr ln sz agg (.agg cs) (.v (.int k a)) = ⟨0 ≤ a ∧ a < ln ∧ cs.length = ln * sz, ofCells agg sz (cs.drop (a.toNat * sz)), [], []⟩ := rfl
@[go_sem] theorem slice_sl (sz : Nat) (lo hi : Option AV) (es : List (List AV)) : effSlice sz lo hi (.sl es) = ⟨(∀ x ∈ es, x.length = sz) ∧ 0 ≤ loBound lo ∧ loBound lo ≤ hiBound es.length hi ∧ hiBound es.length hi ≤ es.length, .sl ((es.take (hiBound es.length hi).toNat).drop (loBound lo).toNat), [], []⟩ := rfl
@[go_sem] theorem sliceO_sl (h : Nat → Option Blk) (sz : Nat) (lo hi : Option AV) (es : List (List AV)) : effSliceO h sz lo hi (.sl es) = effSlice sz lo hi (.sl es) := rfl
@[go_sem] theorem sliceO_nils (h : Nat → Option Blk) (sz : Nat) (lo hi : Option AV) : effSliceO h sz lo hi .nils = effSlice sz lo hi .nils := rfl
@[go_sem] theorem sliceO_own (h : Nat → Option Blk) (sz : Nat) (lo hi : Option AV) (c : Nat) : effSliceO h sz lo hi (.own c) = sliceO c sz lo hi (h c) := rfl
@[go_sem] theorem sliceO_hi (c sz : Nat) (k : AV) (es : List (List AV)) (sz' : Nat) (e : TypeId) : sliceO c sz none (some k) (some (.row es sz' e)) = ⟨sz' = sz ∧ 0 ≤ hiBound es.length (some k) ∧ hiBound es.length (some k) ≤ es.length, .pre c (hiBound es.length (some k)).toNat, [], [c]⟩ := rfl
@[go_sem] theorem sliceO_lo (c sz : Nat) (k : AV) (es : List (List AV)) (sz' : Nat) (e : TypeId) : sliceO c sz (some k) none (some (.row es sz' e)) = ⟨sz' = sz ∧ 0 ≤ loBound (some k) ∧ loBound (some k) ≤ es.length, .suf c sz (loBound (some k)).toNat, [], [c]⟩ := rfl
@[go_sem] theorem clear_suf (h : Nat → Option Blk) (sz : Nat) (zs : List Value) (c i : Nat) : effClear h sz zs (.suf c sz i) = clearR c sz i zs (h c) := if_pos rfl
@[go_sem] theorem clearR_row (c sz i : Nat) (zs : List Value) (es : List (List AV)) (sz' : Nat) (e : TypeId) : clearR c sz i zs (some (.row es sz' e)) = ⟨sz' = sz ∧ i < es.length ∧ zs.length = sz, .tup [], [(c, some (.row (es.take i ++ List.replicate (es.length - i) (zs.map AV.v)) sz e))], [c]⟩ := rfl
@[go_sem] theorem sliceStr_s (lo hi : Option AV) : effSliceStr lo hi (.v (.string s)) = ⟨0 ≤ loBound lo ∧ loBound lo ≤ hiBound s.size hi ∧ hiBound s.size hi ≤ s.size, .v (.string (s.extract (loBound lo).toNat (hiBound s.size hi).toNat)), [], []⟩ := rfl
@[go_sem] theorem slice0_sl (es : List (List AV)) : effSlice0 (.sl es) = ⟨True, .nils, [], []⟩ := rfl
@[go_sem] theorem slice0_nils : effSlice0 .nils = ⟨True, .nils, [], []⟩ := rfl
@[go_sem] theorem lo_none : loBound none = 0 := rfl
@[go_sem] theorem lo_int : loBound (some (.v (.int k a))) = a := rfl
@[go_sem] theorem hi_none (n : Nat) : hiBound n none = n := rfl
@[go_sem] theorem hi_int (n : Nat) : hiBound n (some (.v (.int k a))) = a := rfl
@[go_sem] theorem make_int (nm : Nat) (e : TypeId) (sz bytes : Nat) (zs : List Value) : effMake nm e sz bytes zs (.v (.int k a)) = ⟨0 ≤ a ∧ bytes * a ≤ 281474976710656 ∧ a ≤ 9223372036854775807, .own nm, [(nm, some (.row (List.replicate a.toNat (zs.map AV.ofV)) sz e))], []⟩ := rfl
def elemsO (sz c : Nat) : Option Blk → Option (List (List AV) × List Nat)
  | some (.row es sz' _) => if sz' = sz then some (es, [c]) else none
  | _ => none
@[go_sem] theorem elems_nils (h : Nat → Option Blk) (sz : Nat) : elemsOf h sz .nils = some ([], []) := rfl
@[go_sem] theorem elems_sl (h : Nat → Option Blk) (sz : Nat) (es : List (List AV)) : elemsOf h sz (.sl es) = some (es, []) := rfl
@[go_sem] theorem elems_own (h : Nat → Option Blk) (sz c : Nat) : elemsOf h sz (.own c) = elemsO sz c (h c) := by
  simp only [elemsOf]; unfold elemsO; cases h c <;> rfl
@[go_sem] theorem elemsO_row (sz c : Nat) (es : List (List AV)) (e : TypeId) : elemsO sz c (some (.row es sz e)) = some (es, [c]) := by simp [elemsO]
def appendO (nm c : Nat) (e : TypeId) (sz bytes : Nat) (ys : List (List AV)) (rx : List Nat) : Option Blk → Eff
  | some (.row es sz' e') => ⟨sz' = sz ∧ e' = e ∧ c ∉ rx ∧ (∀ y ∈ ys, y.length = sz) ∧ (es.length + ys.length) * bytes ≤ 140737488355328, .own nm, [(c, none), (nm, some (.row (es ++ ys) sz e))], c :: rx⟩
  | some (.rowS es _ sz' e') => ⟨sz' = sz ∧ e' = e ∧ c ∉ rx ∧ (∀ y ∈ ys, y.length = sz) ∧ (es.length + ys.length) * bytes ≤ 140737488355328, .own nm, [(c, none), (nm, some (.row (es ++ ys) sz e))], c :: rx⟩
  | _ => .fail
def appendX (h : Nat → Option Blk) (nm : Nat) (e : TypeId) (sz bytes : Nat) (s : AV) : Option (List (List AV) × List Nat) → Eff
  | some (ys, rx) => match s with
    | .nils => ⟨(∀ y ∈ ys, y.length = sz) ∧ ys.length * bytes ≤ 140737488355328, .own nm, [(nm, some (.row ys sz e))], rx⟩
    | .own b => appendO nm b e sz bytes ys rx (h b)
    | .slf es sz' e' => ⟨sz' = sz ∧ e' = e ∧ 0 < ys.length ∧ (∀ y ∈ ys, y.length = sz) ∧ (es.length + ys.length) * bytes ≤ 140737488355328, .own nm, [(nm, some (.row (es ++ ys) sz e))], rx⟩
    | _ => .fail
  | none => .fail
@[go_sem] theorem append_x (h : Nat → Option Blk) (nm : Nat) (e : TypeId) (sz bytes : Nat) (s x : AV) : effAppend h nm e sz bytes s x = appendX h nm e sz bytes s (elemsOf h sz x) := by
  unfold effAppend appendX
  cases elemsOf h sz x with
  | none => rfl
  | some p =>
    obtain ⟨ys, rx⟩ := p
    cases s <;> rfl
@[go_sem] theorem appendX_nils (h : Nat → Option Blk) (nm : Nat) (e : TypeId) (sz bytes : Nat) (ys : List (List AV)) (rx : List Nat) : appendX h nm e sz bytes .nils (some (ys, rx)) = ⟨(∀ y ∈ ys, y.length = sz) ∧ ys.length * bytes ≤ 140737488355328, .own nm, [(nm, some (.row ys sz e))], rx⟩ := rfl
@[go_sem] theorem appendX_slf (h : Nat → Option Blk) (nm : Nat) (e : TypeId) (sz bytes : Nat) (es : List (List AV)) (sz' : Nat) (e' : TypeId) (ys : List (List AV)) (rx : List Nat) : appendX h nm e sz bytes (.slf es sz' e') (some (ys, rx)) = ⟨sz' = sz ∧ e' = e ∧ 0 < ys.length ∧ (∀ y ∈ ys, y.length = sz) ∧ (es.length + ys.length) * bytes ≤ 140737488355328, .own nm, [(nm, some (.row (es ++ ys) sz e))], rx⟩ := rfl
@[go_sem] theorem pickB_def (X Y : Eff) : pickB (default : Ans).r X Y = Y := rfl
@[go_sem] theorem copy_own (h : Nat → Option Blk) (c sz : Nat) (x : AV) : effCopy h sz (.own c) x = copyX h c sz (elemsOf h sz x) := rfl
@[go_sem] theorem copyX_some (h : Nat → Option Blk) (c sz : Nat) (ys : List (List AV)) (rx : List Nat) : copyX h c sz (some (ys, rx)) = copyO c sz ys rx (h c) := rfl
@[go_sem] theorem copyO_row (c sz : Nat) (ys es : List (List AV)) (rx : List Nat) (sz' : Nat) (e : TypeId) : copyO c sz ys rx (some (.row es sz' e)) = ⟨sz' = sz ∧ c ∉ rx ∧ es.length = ys.length ∧ (∀ y ∈ ys, y.length = sz), .v (.int .i64 ys.length), [(c, some (.row ys sz e))], c :: rx⟩ := rfl
@[go_sem] theorem appendX_own (h : Nat → Option Blk) (nm : Nat) (e : TypeId) (sz bytes c : Nat) (ys : List (List AV)) (rx : List Nat) : appendX h nm e sz bytes (.own c) (some (ys, rx)) = appendO nm c e sz bytes ys rx (h c) := rfl
@[go_sem] theorem appendO_row (nm c : Nat) (e : TypeId) (sz bytes : Nat) (ys es : List (List AV)) (rx : List Nat) (sz' : Nat) (e' : TypeId) : appendO nm c e sz bytes ys rx (some (.row es sz' e')) = ⟨sz' = sz ∧ e' = e ∧ c ∉ rx ∧ (∀ y ∈ ys, y.length = sz) ∧ (es.length + ys.length) * bytes ≤ 140737488355328, .own nm, [(c, none), (nm, some (.row (es ++ ys) sz e))], c :: rx⟩ := rfl
@[go_sem] theorem appendO_rowS (nm c : Nat) (e : TypeId) (sz bytes : Nat) (ys es zs : List (List AV)) (rx : List Nat) (sz' : Nat) (e' : TypeId) : appendO nm c e sz bytes ys rx (some (.rowS es zs sz' e')) = ⟨sz' = sz ∧ e' = e ∧ c ∉ rx ∧ (∀ y ∈ ys, y.length = sz) ∧ (es.length + ys.length) * bytes ≤ 140737488355328, .own nm, [(c, none), (nm, some (.row (es ++ ys) sz e))], c :: rx⟩ := rfl
end eff

@[go_sem] theorem resSide_nil (P : Program) (S : AState) : resSide P S [] = True := rfl
@[go_sem] theorem resSide_cons (P : Program) (S : AState) (r : ResultVar) (l : List ResultVar) : resSide P S (r :: l) = ((resE P S r).side ∧ resSide P S l) := rfl
@[go_sem] theorem resVals_nil (P : Program) (S : AState) : resVals P S [] = [] := rfl
@[go_sem] theorem resVals_cons (P : Program) (S : AState) (r : ResultVar) (l : List ResultVar) : resVals P S (r :: l) = (resE P S r).val :: resVals P S l := rfl
@[go_sem] theorem resV_one (x : AV) : resV [x] = x := rfl
@[go_sem] theorem resV_two (x y : AV) (l : List AV) : resV (x :: y :: l) = .tup (x :: y :: l) := rfl
@[go_sem] theorem resV_nil : resV [] = .tup [] := rfl
@[go_sem] theorem resE_tmp (P : Program) (S : AState) (t : Nat) : resE P S (.tmp t) = ⟨True, S.t t, [], []⟩ := rfl
@[go_sem] theorem resE_cell (P : Program) (S : AState) (a t : Nat) : resE P S (.cell a t) = effLoad S.h (P.cellsOf t) (isAggB P t) (S.t a) := rfl
@[go_sem] theorem seqQ_normal (K : Nat → AState → Prop) (Q : AExit → Nat → AState → Prop) (nx : Nat) (S : AState) : seqQ K Q .normal nx S = K nx S := rfl
@[go_sem] theorem seqQ_exit (K : Nat → AState → Prop) (Q : AExit → Nat → AState → Prop) (i nx : Nat) (S : AState) : seqQ K Q (.exit i) nx S = Q (.exit i) nx S := rfl
@[go_sem] theorem seqQ_ret (K : Nat → AState → Prop) (Q : AExit → Nat → AState → Prop) (nx : Nat) (S : AState) : seqQ K Q .ret nx S = Q .ret nx S := rfl
@[go_sem] theorem loopQ_normal (K : Nat → AState → Prop) (Q : AExit → Nat → AState → Prop) (nx : Nat) (S : AState) : loopQ K Q .normal nx S = K nx S := rfl
@[go_sem] theorem loopQ_exit (K : Nat → AState → Prop) (Q : AExit → Nat → AState → Prop) (i nx : Nat) (S : AState) : loopQ K Q (.exit i) nx S = Q (.exit i) nx S := rfl
@[go_sem] theorem loopQ_ret (K : Nat → AState → Prop) (Q : AExit → Nat → AState → Prop) (nx : Nat) (S : AState) : loopQ K Q .ret nx S = Q .ret nx S := rfl
@[go_sem] theorem blockQ_normal (id : Nat) (Q : AExit → Nat → AState → Prop) (nx : Nat) (S : AState) : blockQ id Q .normal nx S = Q .normal nx S := rfl
@[go_sem] theorem blockQ_exit (id : Nat) (Q : AExit → Nat → AState → Prop) (i nx : Nat) (S : AState) : blockQ id Q (.exit i) nx S = if i = id then Q .normal nx S else Q (.exit i) nx S := rfl
@[go_sem] theorem blockQ_ret (id : Nat) (Q : AExit → Nat → AState → Prop) (nx : Nat) (S : AState) : blockQ id Q .ret nx S = Q .ret nx S := rfl
theorem Lower.bool {h : Nat → Option Blk} {x y : Bool} (e : x = y) : Lower h (.v (.bool x)) (.v (.bool y)) := by subst e; exact .same _ rfl
theorem Lower.int {h : Nat → Option Blk} {k : IntKind} {x y : Int} (e : x = y) : Lower h (.v (.int k x)) (.v (.int k y)) := by subst e; exact .same _ rfl

attribute [go_sem] buildE rowE AV.deslf AV.okCells AV.cells AV.one splice Value.oneCell' List.map_cons List.map_nil List.length_cons List.length_nil List.drop_zero List.drop_succ_cons List.take_zero List.take_succ_cons List.take_nil List.drop_nil List.cons_append List.nil_append List.append_nil
  true_and and_true or_true true_or or_false false_or Bool.false_eq_true if_true if_false Option.map_some Option.map_none List.getD_cons_zero List.getD_cons_succ Int.toNat_natCast ne_eq not_false_eq_true Bool.not_true Bool.not_false List.not_mem_nil

end Go.Ab
namespace Go.Ab
open Go.RowKit

def lowB (o : Nat) (f : AV → AV) : Option Blk → AV
  | some (.box cs) => if o ≤ cs.length then .rp ((cs.map f).drop o) else .any
  | _ => .any
def lowR : Option Blk → AV
  | some (.row es _ _) => .sl es
  | _ => .any
def lowP (q : Nat) : Option Blk → AV
  | some (.row es _ _) => if q ≤ es.length then .sl (es.take q) else .any
  | _ => .any
def lowM : Option Blk → AV
  | some (.map ks vs) => .mpf ks vs
  | _ => .any
open Classical in
noncomputable def lowE (L : List (List AV)) : Option Blk → AV
  | some (.rowS es ys _ _) => if es ++ ys = L ∧ ys ≠ [] then .sl L else .any
  | _ => .any
/-- A value as a callee sees it that only reads. -/
noncomputable def low (h : Nat → Option Blk) : Nat → AV → AV
  | k + 1, .own b => lowR (h b)
  | 0, .own _ => .any
  | k + 1, .bp b o => lowB o (low h k) (h b)
  | 0, .bp _ _ => .any
  | _, .ep _ _ _ _ => .any
  | _, .suf _ _ _ => .any
  | _, .slf es _ _ => .sl es
  | k + 1, .pre b q => lowP q (h b)
  | 0, .pre _ _ => .any
  | k + 1, .ext b L => lowE L (h b)
  | 0, .ext _ _ => .any
  | k + 1, .agg cs => .agg (cs.map (low h k))
  | k + 1, .tup cs => .tup (cs.map (low h k))
  | k + 1, .fn f cs => .fn f (cs.map (low h k))
  | 0, .agg _ => .any
  | 0, .tup _ => .any
  | 0, .fn _ _ => .any
  | _, .any => .any
  | _, .v x => .v x
  | _, .nils => .sl []
  | _, .sl es => .sl es
  | _, .rp cs => .rp cs
  | _, .mpf ks vs => .mpf ks vs
  | k + 1, .mapv b => lowM (h b)
  | 0, .mapv _ => .any

def hlB (b : Nat) (f : List AV → List (Nat × Blk)) : Option Blk → List (Nat × Blk)
  | some (.box cs) => (b, .box cs) :: f cs
  | some (.row es sz e) => [(b, .row es sz e)]
  | some (.iter ..) => []
  | some (.rowX ..) => []
  | some (.map ks vs) => [(b, .map ks vs)]
  | some (.rowS es ys sz e) => [(b, .rowS es ys sz e)]
  | none => []
/-- The own blocks that a value leads to. -/
def hlOf (h : Nat → Option Blk) : Nat → AV → List (Nat × Blk)
  | k + 1, .own b => hlB b (fun cs => cs.flatMap (hlOf h k)) (h b)
  | k + 1, .pre b _ => hlB b (fun cs => cs.flatMap (hlOf h k)) (h b)
  | k + 1, .bp b _ => hlB b (fun cs => cs.flatMap (hlOf h k)) (h b)
  | k + 1, .mapv b => hlB b (fun cs => cs.flatMap (hlOf h k)) (h b)
  | k + 1, .ext b _ => hlB b (fun cs => cs.flatMap (hlOf h k)) (h b)
  | k + 1, .agg cs => cs.flatMap (hlOf h k)
  | k + 1, .tup cs => cs.flatMap (hlOf h k)
  | k + 1, .fn _ cs => cs.flatMap (hlOf h k)
  | _, _ => []

section low
variable (h : Nat → Option Blk) (k : Nat)
@[go_sem] theorem low_own (b : Nat) : low h (k + 1) (.own b) = lowR (h b) := rfl
@[go_sem] theorem low_mapv (b : Nat) : low h (k + 1) (.mapv b) = lowM (h b) := rfl
@[go_sem] theorem lowM_map (ks : List ByteArray) (vs : List AV) : lowM (some (.map ks vs)) = .mpf ks vs := rfl
@[go_sem] theorem low_mpf (ks : List ByteArray) (vs : List AV) : low h k (.mpf ks vs) = .mpf ks vs := by cases k <;> rfl
@[go_sem] theorem hl_mpf (ks : List ByteArray) (vs : List AV) : hlOf h k (.mpf ks vs) = [] := by cases k <;> rfl
@[go_sem] theorem hl_mapv (b : Nat) : hlOf h (k + 1) (.mapv b) = hlB b (fun cs => cs.flatMap (hlOf h k)) (h b) := rfl
@[go_sem] theorem hlB_map (b : Nat) (f : List AV → List (Nat × Blk)) (ks : List ByteArray) (vs : List AV) : hlB b f (some (.map ks vs)) = [(b, .map ks vs)] := rfl
@[go_sem] theorem low_ext (b : Nat) (L : List (List AV)) : low h (k + 1) (.ext b L) = lowE L (h b) := rfl
@[go_sem] theorem lowE_cons (es ys : List (List AV)) (y : List AV) (sz : Nat) (e : TypeId) : lowE (es ++ (y :: ys)) (some (.rowS es (y :: ys) sz e)) = .sl (es ++ (y :: ys)) := by
  unfold lowE; simp
@[go_sem] theorem hl_ext (b : Nat) (L : List (List AV)) : hlOf h (k + 1) (.ext b L) = hlB b (fun cs => cs.flatMap (hlOf h k)) (h b) := rfl
@[go_sem] theorem hlB_rowS (b : Nat) (f : List AV → List (Nat × Blk)) (es ys : List (List AV)) (sz : Nat) (e : TypeId) : hlB b f (some (.rowS es ys sz e)) = [(b, .rowS es ys sz e)] := rfl
@[go_sem] theorem low_pre (b q : Nat) : low h (k + 1) (.pre b q) = lowP q (h b) := rfl
@[go_sem] theorem lowP_row (q : Nat) (es : List (List AV)) (sz : Nat) (e : TypeId) : lowP q (some (.row es sz e)) = if q ≤ es.length then .sl (es.take q) else .any := rfl
@[go_sem] theorem hl_pre (b q : Nat) : hlOf h (k + 1) (.pre b q) = hlB b (fun cs => cs.flatMap (hlOf h k)) (h b) := rfl
@[go_sem] theorem low_bp (b o : Nat) : low h (k + 1) (.bp b o) = lowB o (low h k) (h b) := rfl
@[go_sem] theorem low_agg (cs : List AV) : low h (k + 1) (.agg cs) = .agg (cs.map (low h k)) := rfl
@[go_sem] theorem low_tup (cs : List AV) : low h (k + 1) (.tup cs) = .tup (cs.map (low h k)) := rfl
@[go_sem] theorem low_fn (f : Nat) (cs : List AV) : low h (k + 1) (.fn f cs) = .fn f (cs.map (low h k)) := rfl
@[go_sem] theorem low_v (x : Value) : low h k (.v x) = .v x := by cases k <;> rfl
@[go_sem] theorem low_nils : low h k .nils = .sl [] := by cases k <;> rfl
@[go_sem] theorem low_slf (es : List (List AV)) (sz : Nat) (e : TypeId) : low h k (.slf es sz e) = .sl es := by cases k <;> rfl
@[go_sem] theorem hl_slf (es : List (List AV)) (sz : Nat) (e : TypeId) : hlOf h k (.slf es sz e) = [] := by cases k <;> rfl
@[go_sem] theorem low_sl (es : List (List AV)) : low h k (.sl es) = .sl es := by cases k <;> rfl
@[go_sem] theorem low_rp (es : List AV) : low h k (.rp es) = .rp es := by cases k <;> rfl
@[go_sem] theorem lowR_row (es : List (List AV)) (sz : Nat) (e : TypeId) : lowR (some (.row es sz e)) = .sl es := rfl
@[go_sem] theorem lowB_box (o : Nat) (f : AV → AV) (cs : List AV) : lowB o f (some (.box cs)) = if o ≤ cs.length then .rp ((cs.map f).drop o) else .any := rfl
@[go_sem] theorem hl_own (b : Nat) : hlOf h (k + 1) (.own b) = hlB b (fun cs => cs.flatMap (hlOf h k)) (h b) := rfl
@[go_sem] theorem hl_bp (b o : Nat) : hlOf h (k + 1) (.bp b o) = hlB b (fun cs => cs.flatMap (hlOf h k)) (h b) := rfl
@[go_sem] theorem hl_agg (cs : List AV) : hlOf h (k + 1) (.agg cs) = cs.flatMap (hlOf h k) := rfl
@[go_sem] theorem hl_tup (cs : List AV) : hlOf h (k + 1) (.tup cs) = cs.flatMap (hlOf h k) := rfl
@[go_sem] theorem hl_fn (f : Nat) (cs : List AV) : hlOf h (k + 1) (.fn f cs) = cs.flatMap (hlOf h k) := rfl
@[go_sem] theorem hl_v (x : Value) : hlOf h k (.v x) = [] := by cases k <;> rfl
@[go_sem] theorem hl_any : hlOf h k .any = [] := by cases k <;> rfl
@[go_sem] theorem hl_nils : hlOf h k .nils = [] := by cases k <;> rfl
@[go_sem] theorem hl_sl (es : List (List AV)) : hlOf h k (.sl es) = [] := by cases k <;> rfl
@[go_sem] theorem hl_rp (es : List AV) : hlOf h k (.rp es) = [] := by cases k <;> rfl
@[go_sem] theorem hlB_row (b : Nat) (f : List AV → List (Nat × Blk)) (es : List (List AV)) (sz : Nat) (e : TypeId) : hlB b f (some (.row es sz e)) = [(b, .row es sz e)] := rfl
@[go_sem] theorem hlB_box (b : Nat) (f : List AV → List (Nat × Blk)) (cs : List AV) : hlB b f (some (.box cs)) = (b, .box cs) :: f cs := rfl
end low

theorem hlB_mem {b : Nat} {f : List AV → List (Nat × Blk)} {x : Option Blk} {p : Nat × Blk} (hp : p ∈ hlB b f x) : (p.1 = b ∧ x = some p.2) ∨ ∃ cs, x = some (.box cs) ∧ p ∈ f cs := by
  cases x with
  | none => simp [hlB] at hp
  | some y => cases y with
    | box cs =>
      simp only [hlB, List.mem_cons] at hp
      rcases hp with rfl | hp
      · exact .inl ⟨rfl, rfl⟩
      · exact .inr ⟨cs, rfl, hp⟩
    | row es sz e =>
      simp only [hlB, List.mem_singleton] at hp
      subst hp
      exact .inl ⟨rfl, rfl⟩
    | iter s pos => simp [hlB] at hp
    | rowX _ _ _ => simp [hlB] at hp
    | map ks vs =>
      simp only [hlB, List.mem_singleton] at hp
      subst hp
      exact .inl ⟨rfl, rfl⟩
    | rowS es ys sz e =>
      simp only [hlB, List.mem_singleton] at hp
      subst hp
      exact .inl ⟨rfl, rfl⟩

theorem hlOf_spec (h : Nat → Option Blk) : ∀ (k : Nat) (x : AV), ∀ p ∈ hlOf h k x, h p.1 = some p.2
  | 0, x, p, hp => by cases x <;> simp [hlOf] at hp
  | k + 1, x, p, hp => by
    have hm : ∀ cs : List AV, p ∈ cs.flatMap (hlOf h k) → h p.1 = some p.2 := fun cs hp => by
      obtain ⟨c, _, hc⟩ := List.mem_flatMap.1 hp
      exact hlOf_spec h k c p hc
    have hb : ∀ b, p ∈ hlB b (fun cs => cs.flatMap (hlOf h k)) (h b) → h p.1 = some p.2 := fun b hp => by
      rcases hlB_mem hp with ⟨h1, h2⟩ | ⟨cs, _, h2⟩
      · rw [h1]; exact h2
      · exact hm cs h2
    cases x with
    | own b => exact hb b hp
    | pre b q => exact hb b hp
    | bp b o => exact hb b hp
    | mapv b => exact hb b hp
    | ext b L => exact hb b hp
    | agg cs => exact hm cs hp
    | tup cs => exact hm cs hp
    | fn f cs => exact hm cs hp
    | _ => simp [hlOf] at hp

theorem listH_of {l : List (Nat × Blk)} {h : Nat → Option Blk} (hs : ∀ p ∈ l, h p.1 = some p.2) {n : Nat} {b : Blk} (hb : (n, b) ∈ l) : listH l n = some b := by
  induction l with
  | nil => simp at hb
  | cons p r ih =>
    obtain ⟨k, b'⟩ := p
    simp only [listH]
    by_cases hn : n = k
    · rw [if_pos hn]
      have h1 := hs (k, b') (by simp)
      have h2 := hs (n, b) hb
      simp only at h1 h2
      rw [hn, h1] at h2
      exact h2
    · rw [if_neg hn]
      refine ih (fun p hp => hs p (by simp [hp])) ?_
      rcases List.mem_cons.1 hb with e | e
      · simp at e; exact absurd e.1 hn
      · exact e

theorem lower_low (h : Nat → Option Blk) {l : List (Nat × Blk)} (hs : ∀ p ∈ l, h p.1 = some p.2) : ∀ (k : Nat) (x : AV), (∀ p ∈ hlOf h k x, p ∈ l) → Lower (listH l) x (low h k x)
  | 0, x, hl => by cases x <;> first | exact .any _ | exact .nil0 | exact .full _ _ _ | exact .same _ rfl
  | k + 1, x, hl => by
    have hm : ∀ cs : List AV, (∀ p ∈ cs.flatMap (hlOf h k), p ∈ l) → cs.length = (cs.map (low h k)).length ∧ ∀ j, j < cs.length → Lower (listH l) (av cs j) (av (cs.map (low h k)) j) := fun cs hcs => by
      refine ⟨by simp, fun j hj => ?_⟩
      have e : av (cs.map (low h k)) j = low h k (av cs j) := by simp [av, List.getD_eq_getElem?_getD, hj]
      rw [e]
      exact lower_low h hs k _ fun p hp => hcs p (List.mem_flatMap.2 ⟨_, av_mem hj, hp⟩)
    cases x with
    | own b =>
      rw [low_own]
      cases hb : h b with
      | none => exact .any _
      | some y => cases y with
        | box cs => exact .any _
        | iter q p => exact .any _
        | rowX _ _ _ => exact .any _
        | map _ _ => exact .any _
        | rowS _ _ _ _ => exact .any _
        | row es sz e => exact .own (listH_of hs (hl (b, .row es sz e) (by simp [hlOf, hb, hlB])))
    | ext b L =>
      rw [low_ext]
      cases hb : h b with
      | none => exact .any _
      | some y => cases y with
        | rowS es ys sz e =>
          simp only [lowE]
          split
          · rename_i hc
            exact .ext (listH_of hs (hl (b, .rowS es ys sz e) (by simp [hlOf, hb, hlB]))) hc.2 hc.1
          · exact .any _
        | _ => exact .any _
    | mapv b =>
      rw [low_mapv]
      cases hb : h b with
      | none => exact .any _
      | some y => cases y with
        | map ks vs => exact .mapv (listH_of hs (hl (b, .map ks vs) (by simp [hlOf, hb, hlB])))
        | _ => exact .any _
    | pre b q =>
      rw [low_pre]
      cases hb : h b with
      | none => exact .any _
      | some y => cases y with
        | box cs => exact .any _
        | iter q p => exact .any _
        | rowX _ _ _ => exact .any _
        | map _ _ => exact .any _
        | rowS _ _ _ _ => exact .any _
        | row es sz e =>
          simp only [lowP]
          split
          · exact .pre (listH_of hs (hl (b, .row es sz e) (by simp [hlOf, hb, hlB]))) (by assumption)
          · exact .any _
    | bp b o =>
      rw [low_bp]
      cases hb : h b with
      | none => exact .any _
      | some y => cases y with
        | row es sz e => exact .any _
        | iter q p => exact .any _
        | rowX _ _ _ => exact .any _
        | map _ _ => exact .any _
        | rowS _ _ _ _ => exact .any _
        | box cs =>
          simp only [lowB]
          split
          · have hcs := hm cs (fun p hp => hl p (by simp only [hlOf, hb, hlB]; exact List.mem_cons_of_mem _ hp))
            exact .bp (listH_of hs (hl (b, .box cs) (by simp [hlOf, hb, hlB]))) hcs.1 (by assumption) hcs.2
          · exact .any _
    | agg cs => exact .agg (hm cs hl).1 (hm cs hl).2
    | tup cs => exact .tup (hm cs hl).1 (hm cs hl).2
    | fn f cs => exact .fn (hm cs hl).1 (hm cs hl).2
    | ep b sz i o => exact .any _
    | suf b sz i => exact .any _
    | slf es sz e => exact .full _ _ _
    | any => exact .any _
    | nils => exact .nil0
    | _ => exact .same _ rfl

/-- What a call asks for, the arguments as the callee sees them. -/
def CallP (P : Program) (f : FuncId) (S : AState) (nm : Nat) (lv : List AV) (names : List Nat) (K : AV → Prop) : Prop :=
  ∃ r, Pure P f lv r ∧ nm ∉ names ∧ (names = [] ∨ Dry r) ∧ K r
def CallO (P : Program) (f : FuncId) (S : AState) (nm : Nat) (lv : List AV) (names : List Nat) (K : List (List AV) → Nat → TypeId → Prop) : Prop :=
  ∃ es sz ty, PureOwn P f lv es sz ty ∧ nm ∉ names ∧ (names = [] ∨ ∀ y ∈ es, ∀ c ∈ y, Dry c) ∧ K es sz ty

noncomputable def lows (S : AState) (vs : List AV) : List AV := vs.map (low S.h 8)
def hls (S : AState) (vs : List AV) : List (Nat × Blk) := vs.flatMap (hlOf S.h 8)

theorem callC_of {P : Program} {f : FuncId} {S : AState} {nm : Nat} {vs : List AV} {r : AV} (h1 : Pure P f (lows S vs) r) (h2 : nm ∉ (hls S vs).map (·.1)) (h3 : (hls S vs).map (·.1) = [] ∨ Dry r) : (effCall P S nm ⟨r, [], hls S vs⟩ f vs).side := by
  have hs : ∀ p ∈ hls S vs, S.h p.1 = some p.2 := fun p hp => by
    obtain ⟨x, _, hx⟩ := List.mem_flatMap.1 hp
    exact hlOf_spec S.h 8 x p hx
  refine ⟨hs, fun p hp => by simp at hp, h2, CallC.pure h1 (by simp [lows]) (fun j hj => ?_) (h3.imp (fun e => by simpa using e) id)⟩
  have e : av (lows S vs) j = low S.h 8 (av vs j) := by simp [lows, av, List.getD_eq_getElem?_getD, hj]
  rw [e]
  exact lower_low S.h hs 8 _ fun p hp => List.mem_flatMap.2 ⟨_, av_mem hj, hp⟩

theorem callO_of {P : Program} {f : FuncId} {S : AState} {nm : Nat} {vs : List AV} {es : List (List AV)} {sz : Nat} {ty : TypeId} (h1 : PureOwn P f (lows S vs) es sz ty) (h2 : nm ∉ (hls S vs).map (·.1)) (h3 : (hls S vs).map (·.1) = [] ∨ ∀ y ∈ es, ∀ c ∈ y, Dry c) :
    (effCall P S nm ⟨.own nm, [(nm, some (.row es sz ty))], hls S vs⟩ f vs).side := by
  have hs : ∀ p ∈ hls S vs, S.h p.1 = some p.2 := fun p hp => by
    obtain ⟨x, _, hx⟩ := List.mem_flatMap.1 hp
    exact hlOf_spec S.h 8 x p hx
  refine ⟨hs, fun p hp => by simp at hp; exact .inl (by rw [hp]), h2, CallC.own h1 (by simp [lows]) (fun j hj => ?_) h2 (h3.imp (fun e => by simpa using e) id)⟩
  have e : av (lows S vs) j = low S.h 8 (av vs j) := by simp [lows, av, List.getD_eq_getElem?_getD, hj]
  rw [e]
  exact lower_low S.h hs 8 _ fun p hp => List.mem_flatMap.2 ⟨_, av_mem hj, hp⟩

/-- The function and the values of a call. -/
def callee (S : AState) : AOp → Option (FuncId × List AV)
  | .call f asz => some (f, asz.map (evo S))
  | .callv x asz => match evo S x with
    | .fn f caps => some (f, asz.map (evo S) ++ caps)
    | _ => none
  | _ => none

theorem eff_callee {P : Program} {nm : Nat} {S : AState} {an : Ans} {op : AOp} {f : FuncId} {vs : List AV} (h : callee S op = some (f, vs)) : op.eff P nm S an = effCall P S nm an f vs ∧ op.isCall = true := by
  cases op <;> simp only [callee] at h <;> try (cases h; done)
  · simp at h
    obtain ⟨rfl, rfl⟩ := h
    exact ⟨rfl, rfl⟩
  · rename_i x asz
    cases hx : evo S x <;> simp [hx] at h
    obtain ⟨rfl, rfl⟩ := h
    simp [AOp.eff, hx, effCallV, AOp.isCall]

section calls
variable {P : Program} {d : Option Nat} {op : AOp} {deps : List Nat} {r : List AOper} {nm : Nat} {S : AState}

theorem aops_low {f : FuncId} {vs : List AV} {K : AState → Prop} (hc : callee S op = some (f, vs)) (h : CallP P f S nm (lows S vs) ((hls S vs).map (·.1)) fun x => aops P r (nm + 1) (S.app d ⟨True, x, [], []⟩) K) :
    aopsC P ⟨d, op, none, deps⟩ r nm S K := by
  obtain ⟨x, h1, h2, h3, h4⟩ := h
  obtain ⟨e1, e2⟩ := eff_callee (P := P) (nm := nm) (an := ⟨x, [], hls S vs⟩) hc
  exact aops_call ⟨x, [], hls S vs⟩ (choosy_of_call e2) (by rw [e1]; exact callC_of h1 h2 h3) (by rw [e1]; exact h4)

theorem aops_lowO {f : FuncId} {vs : List AV} {K : AState → Prop} (hc : callee S op = some (f, vs)) (h : CallO P f S nm (lows S vs) ((hls S vs).map (·.1)) fun es sz ty => aops P r (nm + 1) (S.app d ⟨True, .own nm, [(nm, some (.row es sz ty))], []⟩) K) :
    aopsC P ⟨d, op, none, deps⟩ r nm S K := by
  obtain ⟨es, sz, ty, h1, h2, h3, h4⟩ := h
  obtain ⟨e1, e2⟩ := eff_callee (P := P) (nm := nm) (an := ⟨.own nm, [(nm, some (.row es sz ty))], hls S vs⟩) hc
  exact aops_call ⟨.own nm, [(nm, some (.row es sz ty))], hls S vs⟩ (choosy_of_call e2) (by rw [e1]; exact callO_of h1 h2 h3) (by rw [e1]; exact h4)

theorem aopsL_low {f : FuncId} {vs : List AV} {l : List Ent} {K : AState → List Ent → Prop} (hc : callee S op = some (f, vs)) (h : CallP P f S nm (lows S vs) ((hls S vs).map (·.1)) fun x => aopsL P r (nm + 1) (S.app d ⟨True, x, [], []⟩) (l ++ [⟨op.temps, (hls S vs).map (·.1), d, []⟩]) K) :
    aopsLC P ⟨d, op, none, deps⟩ r nm S l K := by
  obtain ⟨x, h1, h2, h3, h4⟩ := h
  obtain ⟨e1, e2⟩ := eff_callee (P := P) (nm := nm) (an := ⟨x, [], hls S vs⟩) hc
  exact aopsL_call ⟨x, [], hls S vs⟩ (choosy_of_call e2) (by rw [e1]; exact callC_of h1 h2 h3) (by rw [e1]; exact h4)

theorem aopsL_lowO {f : FuncId} {vs : List AV} {l : List Ent} {K : AState → List Ent → Prop} (hc : callee S op = some (f, vs)) (h : CallO P f S nm (lows S vs) ((hls S vs).map (·.1)) fun es sz ty => aopsL P r (nm + 1) (S.app d ⟨True, .own nm, [(nm, some (.row es sz ty))], []⟩) (l ++ [⟨op.temps, (hls S vs).map (·.1), d, [nm]⟩]) K) :
    aopsLC P ⟨d, op, none, deps⟩ r nm S l K := by
  obtain ⟨es, sz, ty, h1, h2, h3, h4⟩ := h
  obtain ⟨e1, e2⟩ := eff_callee (P := P) (nm := nm) (an := ⟨.own nm, [(nm, some (.row es sz ty))], hls S vs⟩) hc
  exact aopsL_call ⟨.own nm, [(nm, some (.row es sz ty))], hls S vs⟩ (choosy_of_call e2) (by rw [e1]; exact callO_of h1 h2 h3) (by rw [e1]; exact h4)

/-- A call under a guard, in a region that draws. -/
theorem aopsL_lowG {t : Nat} {b want : Bool} {l : List Ent} {K : AState → List Ent → Prop} (hop : op.isCall = true) (hb : S.t t = .v (.bool b))
    (h1 : b = want → ∃ f vs, callee S op = some (f, vs) ∧ CallP P f S nm (lows S vs) ((hls S vs).map (·.1)) fun x => aopsL P r (nm + 1) (S.app d ⟨True, x, [], []⟩) (l ++ [⟨t :: op.temps, (hls S vs).map (·.1), d, []⟩]) K)
    (h2 : b = (!want) → aopsL P r (nm + 1) (S.put d (.tup [])) (l ++ [⟨[t], [], d, []⟩]) K) : aopsLC P ⟨d, op, some (t, want), deps⟩ r nm S l K := by
  refine aopsL_callg (choosy_of_call hop) ?_
  rw [hb]
  refine gval_intro (fun e => ?_) h2
  obtain ⟨f, vs, hc, x, g1, g2, g3, g4⟩ := h1 e
  obtain ⟨e1, e2⟩ := eff_callee (P := P) (nm := nm) (an := ⟨x, [], hls S vs⟩) hc
  exact ⟨⟨x, [], hls S vs⟩, by rw [e1]; exact callC_of g1 g2 g3, by rw [e1]; exact g4⟩
end calls

/-! ### Ghost steps over states that are written out -/

def AllV (S : AState) (hd : Nat → Option Blk) (ρ : Nat → Nat) (nx : Nat) : List (Nat × AV) → Prop
  | [] => True
  | (t, y) :: r => View hd ρ nx (S.t t) y ∧ AllV S hd ρ nx r
def AllB (S : AState) (hd : Nat → Option Blk) (ρ : Nat → Nat) (nx : Nat) : List (Nat × Blk) → Prop
  | [] => True
  | (n, b') :: r => (n < nx ∧ ∃ b, S.h (ρ n) = some b ∧ BView hd ρ nx b b') ∧ AllB S hd ρ nx r
def deadH (S : AState) : List Nat → Nat → Option Blk
  | [], _ => none
  | k :: r, n => if n = k then S.h n else deadH S r n

theorem allV_spec {S : AState} {hd : Nat → Option Blk} {ρ : Nat → Nat} {nx : Nat} : ∀ {ts : List (Nat × AV)}, AllV S hd ρ nx ts → ∀ t, View hd ρ nx (S.t t) (lk .any ts t)
  | [], _, t => .any _
  | (k, y) :: r, h, t => by
    simp only [lk]
    split
    · rename_i e; subst e; exact h.1
    · exact allV_spec h.2 t
theorem allB_spec {S : AState} {hd : Nat → Option Blk} {ρ : Nat → Nat} {nx : Nat} : ∀ {hs : List (Nat × Blk)}, AllB S hd ρ nx hs → ∀ n b', listH hs n = some b' → n < nx ∧ ∃ b, S.h (ρ n) = some b ∧ BView hd ρ nx b b'
  | [], _, n, b', hb => by simp [listH] at hb
  | (k, y) :: r, h, n, b', hb => by
    simp only [listH] at hb
    split at hb
    · rename_i e; subst e; simp at hb; subst hb; exact h.1
    · exact allB_spec h.2 n b' hb
theorem deadH_spec {S : AState} : ∀ {dead : List Nat} {b : Nat} {blk : Blk}, deadH S dead b = some blk → b ∈ dead ∧ S.h b = some blk
  | [], b, blk, h => by simp [deadH] at h
  | k :: r, b, blk, h => by
    simp only [deadH] at h
    split at h
    · rename_i e; subst e; exact ⟨by simp, h⟩
    · have := deadH_spec h; exact ⟨by simp [this.1], this.2⟩

/-- The names: pairs of the new one and the old one. -/
def ren (ns : List (Nat × Nat)) (n : Nat) : Nat := lk n ns n

theorem Ghost.mk {nx nx' : Nat} {S : AState} {ts : List (Nat × AV)} {hs : List (Nat × Blk)} (ns : List (Nat × Nat)) (dead : List Nat)
    (hdead : (hs.all fun p => !dead.contains (ren ns p.1)) = true) (hinj : (hs.all fun p => hs.all fun q => ren ns p.1 != ren ns q.1 || p.1 == q.1) = true)
    (hV : AllV S (deadH S dead) (ren ns) nx' ts) (hB : AllB S (deadH S dead) (ren ns) nx' hs) : Ghost 0 nx S nx' (mkS ts hs) := by
  refine Ghost.view (ren ns) (deadH S dead) (fun n hn => by omega) (fun b blk hb => ?_) (allV_spec hV) (allB_spec hB) (fun n m b b' hb hb' he => ?_)
  · obtain ⟨h1, h2⟩ := deadH_spec hb
    refine ⟨rfl, h2, fun n blk' hn e => ?_⟩
    have := List.all_eq_true.1 hdead _ (listH_mem hn)
    simp only [Bool.not_eq_true', List.contains_eq_mem, decide_eq_false_iff_not] at this
    exact this (by rw [e]; exact h1)
  · have h1 := List.all_eq_true.1 hinj _ (listH_mem hb)
    have h2 := List.all_eq_true.1 h1 _ (listH_mem hb')
    simp only [Bool.or_eq_true, bne_iff_ne, ne_eq, beq_iff_eq] at h2
    rcases h2 with h2 | h2
    · exact absurd he h2
    · exact h2

@[go_sem] theorem allV_nil (S : AState) (hd : Nat → Option Blk) (ρ : Nat → Nat) (nx : Nat) : AllV S hd ρ nx [] = True := rfl
@[go_sem] theorem allV_cons (S : AState) (hd : Nat → Option Blk) (ρ : Nat → Nat) (nx t : Nat) (y : AV) (r : List (Nat × AV)) : AllV S hd ρ nx ((t, y) :: r) = (View hd ρ nx (S.t t) y ∧ AllV S hd ρ nx r) := rfl
@[go_sem] theorem allB_nil (S : AState) (hd : Nat → Option Blk) (ρ : Nat → Nat) (nx : Nat) : AllB S hd ρ nx [] = True := rfl
@[go_sem] theorem allB_cons (S : AState) (hd : Nat → Option Blk) (ρ : Nat → Nat) (nx n : Nat) (b : Blk) (r : List (Nat × Blk)) : AllB S hd ρ nx ((n, b) :: r) = ((n < nx ∧ ∃ b0, S.h (ρ n) = some b0 ∧ BView hd ρ nx b0 b) ∧ AllB S hd ρ nx r) := rfl
@[go_sem] theorem ren_nil (n : Nat) : ren [] n = n := rfl
@[go_sem] theorem ren_same (n k : Nat) (r : List (Nat × Nat)) : ren ((n, k) :: r) n = k := by simp [ren, lk]
@[go_sem] theorem ren_ne (n m k : Nat) (r : List (Nat × Nat)) (h : n ≠ m) : ren ((m, k) :: r) n = ren r n := by simp [ren, lk, h]
@[go_sem] theorem view_v (hd : Nat → Option Blk) (ρ : Nat → Nat) (nx : Nat) (x : Value) : View hd ρ nx (.v x) (.v x) = True := by simp; exact .low (.same _ rfl)
@[go_sem] theorem view_sl (hd : Nat → Option Blk) (ρ : Nat → Nat) (nx : Nat) (x : List (List AV)) : View hd ρ nx (.sl x) (.sl x) = True := by simp; exact .low (.same _ rfl)
theorem View.int {hd : Nat → Option Blk} {ρ : Nat → Nat} {nx : Nat} {k : IntKind} {x y : Int} (e : x = y) : View hd ρ nx (.v (.int k x)) (.v (.int k y)) := by subst e; exact .low (.same _ rfl)
theorem View.fnF {hd : Nat → Option Blk} {ρ : Nat → Nat} {nx : Nat} {f : Nat} {cs : List AV} (h : ∀ c ∈ cs, c.flat = true) : View hd ρ nx (.fn f cs) (.fn f cs) := .low (.fn rfl fun j hj => .same _ (h _ (av_mem hj)))
theorem wrap_i64 {n : Int} (h1 : -9223372036854775808 ≤ n) (h2 : n ≤ 9223372036854775807) : IntKind.i64.wrap n = n := by
  simp only [IntKind.wrap, IntKind.bits, IntKind.signed]
  have e : (2 : Int) ^ 64 = 18446744073709551616 := by decide
  have e2 : (2 : Int) ^ (64 - 1) = 9223372036854775808 := by decide
  simp only [e, e2, Bool.true_and, decide_eq_true_eq]
  split <;> omega

attribute [go_sem] callee lows hls List.flatMap_cons List.flatMap_nil

end Go.Ab
namespace Go.Proofs
open Go Go.Ab
def AO (d : Nat) (o : AOp) : AOper := ⟨some d, o, none, []⟩
def AM (d n : Nat) : AOper := AO d (.mv (.t n))
def AR := ACode.region false
def Tryz.ac49 : ACode := ((AR [AO 2 (.mv (.c (.bool false)))]).seq (((AR [AM 7 0, AO 8 (.bin .eql (.t 7) (.c (.string ⟨⟨[]⟩⟩))), AM 9 8, ⟨some 10, .mv (.t 0), some (9, false), []⟩, ⟨some 11, .lenStr (.t 10), some (9, false), []⟩, ⟨some 12, .bin .gtr (.t 11) (.c (.int .i64 (16))), some (9, false), []⟩, AO 13 (.pick (.t 9) (.c (.bool true)) (.t 12))]).seq (ACode.cond (.t 13) ((AR [AO 2 (.mv (.c (.bool false)))]).seq ACode.ret) ACode.skip)).seq (((AR [AM 14 0, AO 15 (.range (.t 14))]).seq (ACode.block 0 ((AR [AO 16 (.next (.t 15)), AO 17 (.extract (.t 16) 0)]).seq ((ACode.cond (.t 17) ACode.skip (ACode.exit 0)).seq (ACode.block 1 ((AR [AO 18 (.extract (.t 16) 1), AO 19 (.extract (.t 16) 2), AM 3 18, AM 4 19]).seq ((AR [AM 20 4, AO 21 (.bin .geq (.t 20) (.c (.int .i32 (65)))), AM 22 21, ⟨some 23, .mv (.t 4), some (22, true), []⟩, ⟨some 24, .bin .leq (.t 23) (.c (.int .i32 (90))), some (22, true), []⟩, AO 25 (.pick (.t 22) (.t 24) (.c (.bool false))), AM 26 25, ⟨some 27, .mv (.t 4), some (26, false), []⟩, ⟨some 28, .bin .geq (.t 27) (.c (.int .i32 (97))), some (26, false), []⟩, ⟨some 29, .mv (.t 28), some (26, false), []⟩, ⟨some 30, .mv (.t 4), some (29, true), []⟩, ⟨some 31, .bin .leq (.t 30) (.c (.int .i32 (122))), some (29, true), []⟩, ⟨some 32, .pick (.t 29) (.t 31) (.c (.bool false)), some (26, false), []⟩, AO 33 (.pick (.t 26) (.c (.bool true)) (.t 32)), AM 5 33]).seq ((AR [AM 34 4, AO 35 (.bin .geq (.t 34) (.c (.int .i32 (48)))), AM 36 35, ⟨some 37, .mv (.t 4), some (36, true), []⟩, ⟨some 38, .bin .leq (.t 37) (.c (.int .i32 (57))), some (36, true), []⟩, AO 39 (.pick (.t 36) (.t 38) (.c (.bool false))), AM 40 39, ⟨some 41, .mv (.t 4), some (40, false), []⟩, ⟨some 42, .bin .eql (.t 41) (.c (.int .i32 (95))), some (40, false), []⟩, AO 43 (.pick (.t 40) (.c (.bool true)) (.t 42)), AM 44 43, ⟨some 45, .mv (.t 4), some (44, false), []⟩, ⟨some 46, .bin .eql (.t 45) (.c (.int .i32 (45))), some (44, false), []⟩, AO 47 (.pick (.t 44) (.c (.bool true)) (.t 46)), AM 6 47]).seq ((AR [AM 48 5, AO 49 (.un .not (.t 48)), AM 50 49, ⟨some 51, .mv (.t 3), some (50, true), []⟩, ⟨some 52, .bin .eql (.t 51) (.c (.int .i64 (0))), some (50, true), []⟩, ⟨some 53, .mv (.t 52), some (50, true), []⟩, ⟨some 54, .mv (.t 6), some (53, false), []⟩, ⟨some 55, .un .not (.t 54), some (53, false), []⟩, ⟨some 56, .pick (.t 53) (.c (.bool true)) (.t 55), some (50, true), []⟩, AO 57 (.pick (.t 50) (.t 56) (.c (.bool false)))]).seq (ACode.cond (.t 57) ((AR [AO 2 (.mv (.c (.bool false)))]).seq ACode.ret) ACode.skip)))))))).loop)).seq ((AR [AO 2 (.mv (.c (.bool true)))]).seq ACode.ret))))
theorem Tryz.F49 : FnFacts Tryz.prog 49 Tryz.f49 Tryz.ac49 58 [.tmp 2] := ⟨Tryz.func49, by kernel_rfl, by kernel_rfl, by kernel_rfl, by kernel_rfl, by kernel_rfl, by kernel_rfl, by kernel_rfl⟩
def Tryz.ac50 : ACode := ((AR [AO 2 (.mv (.c (.bool false)))]).seq ((AR [AM 3 0, AO 4 (.bin .geq (.t 3) (.c (.int .i64 (1)))), AM 5 4, ⟨some 6, .mv (.t 0), some (5, true), []⟩, ⟨some 7, .bin .leq (.t 6) (.c (.int .i64 (524288))), some (5, true), []⟩, AO 8 (.pick (.t 5) (.t 7) (.c (.bool false))), AM 2 8]).seq ACode.ret))
theorem Tryz.F50 : FnFacts Tryz.prog 50 Tryz.f50 Tryz.ac50 9 [.tmp 2] := ⟨Tryz.func50, by kernel_rfl, by kernel_rfl, by kernel_rfl, by kernel_rfl, by kernel_rfl, by kernel_rfl, by kernel_rfl⟩
def Tryz.ac51 : ACode := ((AR [AO 3 (.box 1 (.t 1)), AO 4 (.alloc [.string ⟨⟨[]⟩⟩, .int .i64 (0), .int .i64 (0)]), AO 5 (.mv (.c (.bool false)))]).seq ((AR [AM 7 0, AO 8 (.mkfn 68 [.t 3]), AO 9 (.call 67 [.t 7, .t 8]), AM 6 9]).seq (((AR [AM 10 6, AO 11 (.bin .lss (.t 10) (.c (.int .i64 (0))))]).seq (ACode.cond (.t 11) ((AR [AO 12 (.build [.string ⟨⟨[]⟩⟩, .int .i64 (0), .int .i64 (0)] []), ⟨none, .store 3 (.t 4) (.t 12), none, []⟩, AO 5 (.mv (.c (.bool false)))]).seq ACode.ret) ACode.skip)).seq ((AR [AM 13 0, AM 14 6, AO 15 (.idxAddr 3 (.t 13) (.t 14)), AO 16 (.load 3 true (.t 15)), ⟨none, .store 3 (.t 4) (.t 16), none, []⟩, AO 5 (.mv (.c (.bool true)))]).seq ACode.ret))))
theorem Tryz.F51 : FnFacts Tryz.prog 51 Tryz.f51 Tryz.ac51 17 [.cell 4 53, .tmp 5] := ⟨Tryz.func51, by kernel_rfl, by kernel_rfl, by kernel_rfl, by kernel_rfl, by kernel_rfl, by kernel_rfl, by kernel_rfl⟩
def Tryz.ac52 : ACode := ((AR [AO 5 (.box 8 (.t 2)), AO 6 (.mv (.c (.int .i64 (0))))]).seq ((AR [AM 10 0, AO 11 (.fieldAddr 1 (.t 5)), AO 12 (.load 1 false (.t 11)), AO 13 (.call 51 [.t 10, .t 12]), AM 9 13, AO 14 (.extract (.t 9) 0), AO 15 (.extract (.t 9) 1), AO 7 (.alloc [.string ⟨⟨[]⟩⟩, .int .i64 (0), .int .i64 (0)]), ⟨none, .store 3 (.t 7) (.t 14), none, []⟩, AM 8 15]).seq ((ACode.block 0 ((AR [AO 17 (.fieldAddr 0 (.t 5)), AO 18 (.load 1 false (.t 17)), AO 19 (.call 40 [.t 18]), AO 20 (.un .not (.t 19)), AM 16 20]).seq (ACode.cond (.t 16) ((AR [AO 6 (.mv (.c (.int .i64 (6))))]).seq ACode.ret) ((AR [AM 22 8, AO 23 (.un .not (.t 22)), AM 21 23]).seq (ACode.cond (.t 21) ((AR [AO 6 (.mv (.c (.int .i64 (8))))]).seq ACode.ret) ((AR [AO 25 (.fieldAddr 4 (.t 5)), AO 26 (.load 1 false (.t 25)), AO 27 (.call 50 [.t 26]), AO 28 (.un .not (.t 27)), AM 29 28, ⟨some 30, .fieldAddr 5 (.t 5), some (29, false), []⟩, ⟨some 31, .load 1 false (.t 30), some (29, false), []⟩, ⟨some 32, .call 50 [.t 31], some (29, false), []⟩, ⟨some 33, .un .not (.t 32), some (29, false), []⟩, AO 34 (.pick (.t 29) (.c (.bool true)) (.t 33)), AM 35 34, ⟨some 36, .fieldAddr 6 (.t 5), some (35, false), []⟩, ⟨some 37, .fieldAddr 0 (.t 36), some (35, false), []⟩, ⟨some 38, .load 1 false (.t 37), some (35, false), []⟩, ⟨some 39, .bin .lss (.t 38) (.c (.int .i64 (0))), some (35, false), []⟩, AO 40 (.pick (.t 35) (.c (.bool true)) (.t 39)), AM 41 40, ⟨some 42, .fieldAddr 6 (.t 5), some (41, false), []⟩, ⟨some 43, .fieldAddr 0 (.t 42), some (41, false), []⟩, ⟨some 44, .load 1 false (.t 43), some (41, false), []⟩, ⟨some 45, .fieldAddr 6 (.t 5), some (41, false), []⟩, ⟨some 46, .fieldAddr 1 (.t 45), some (41, false), []⟩, ⟨some 47, .load 1 false (.t 46), some (41, false), []⟩, ⟨some 48, .bin .geq (.t 44) (.t 47), some (41, false), []⟩, AO 49 (.pick (.t 41) (.c (.bool true)) (.t 48)), AM 50 49, ⟨some 51, .fieldAddr 6 (.t 5), some (50, false), []⟩, ⟨some 52, .fieldAddr 1 (.t 51), some (50, false), []⟩, ⟨some 53, .load 1 false (.t 52), some (50, false), []⟩, ⟨some 54, .bin .gtr (.t 53) (.c (.int .i64 (1048576))), some (50, false), []⟩, AO 55 (.pick (.t 50) (.c (.bool true)) (.t 54)), AM 24 55]).seq (ACode.cond (.t 24) ((AR [AO 6 (.mv (.c (.int .i64 (9))))]).seq ACode.ret) ((AR [AO 57 (.fieldAddr 2 (.t 5)), AO 58 (.fieldAddr 0 (.t 57)), AO 59 (.load 1 false (.t 58)), AO 60 (.bin .lss (.t 59) (.c (.int .i64 (0)))), AM 61 60, ⟨some 62, .fieldAddr 2 (.t 5), some (61, false), []⟩, ⟨some 63, .fieldAddr 1 (.t 62), some (61, false), []⟩, ⟨some 64, .load 1 false (.t 63), some (61, false), []⟩, ⟨some 65, .bin .lss (.t 64) (.c (.int .i64 (0))), some (61, false), []⟩, AO 66 (.pick (.t 61) (.c (.bool true)) (.t 65)), AM 67 66, ⟨some 68, .fieldAddr 2 (.t 5), some (67, false), []⟩, ⟨some 69, .fieldAddr 0 (.t 68), some (67, false), []⟩, ⟨some 70, .load 1 false (.t 69), some (67, false), []⟩, ⟨some 71, .fieldAddr 1 (.t 7), some (67, false), []⟩, ⟨some 72, .load 1 false (.t 71), some (67, false), []⟩, ⟨some 73, .fieldAddr 4 (.t 5), some (67, false), []⟩, ⟨some 74, .load 1 false (.t 73), some (67, false), []⟩, ⟨some 75, .bin .sub (.t 72) (.t 74), some (67, false), []⟩, ⟨some 76, .bin .gtr (.t 70) (.t 75), some (67, false), []⟩, AO 77 (.pick (.t 67) (.c (.bool true)) (.t 76)), AM 78 77, ⟨some 79, .fieldAddr 2 (.t 5), some (78, false), []⟩, ⟨some 80, .fieldAddr 1 (.t 79), some (78, false), []⟩, ⟨some 81, .load 1 false (.t 80), some (78, false), []⟩, ⟨some 82, .fieldAddr 2 (.t 7), some (78, false), []⟩, ⟨some 83, .load 1 false (.t 82), some (78, false), []⟩, ⟨some 84, .fieldAddr 5 (.t 5), some (78, false), []⟩, ⟨some 85, .load 1 false (.t 84), some (78, false), []⟩, ⟨some 86, .bin .sub (.t 83) (.t 85), some (78, false), []⟩, ⟨some 87, .bin .gtr (.t 81) (.t 86), some (78, false), []⟩, AO 88 (.pick (.t 78) (.c (.bool true)) (.t 87)), AM 56 88]).seq (ACode.cond (.t 56) ((AR [AO 6 (.mv (.c (.int .i64 (18))))]).seq ACode.ret) ((AR [AM 90 1, AO 91 (.mkfn 70 [.t 5]), AO 92 (.call 69 [.t 90, .t 91]), AM 89 92]).seq (ACode.cond (.t 89) ((AR [AO 6 (.mv (.c (.int .i64 (19))))]).seq ACode.ret) ACode.skip))))))))))).seq ((AR [AO 6 (.mv (.c (.int .i64 (0))))]).seq ACode.ret))))
theorem Tryz.F52 : FnFacts Tryz.prog 52 Tryz.f52 Tryz.ac52 93 [.tmp 6] := ⟨Tryz.func52, by kernel_rfl, by kernel_rfl, by kernel_rfl, by kernel_rfl, by kernel_rfl, by kernel_rfl, by kernel_rfl⟩
def Tryz.ac57 : ACode := ((AR [AO 3 (.box 1 (.t 0)), AO 4 (.box 1 (.t 1)), AO 5 (.box 1 (.t 2)), AO 6 (.mv (.c (.slice none 0 0)))]).seq ((ACode.region true [AO 15 (.load 1 false (.t 3)), ⟨some 16, .call 86 [.t 15], none, [0]⟩, AO 17 (.load 1 false (.t 4)), ⟨some 18, .call 86 [.t 17], none, [2, 1]⟩, ⟨none, .store 1 (.t 3) (.t 16), none, [1, 3, 0, 1]⟩, ⟨none, .store 1 (.t 4) (.t 18), none, [3, 4, 0, 1, 2, 3, 4]⟩]).seq ((AR [AO 7 (.mv (.c (.slice none 0 0)))]).seq (((AR [AO 19 (.load 1 false (.t 3)), AO 20 (.load 1 false (.t 4)), AO 21 (.buildSlice 35 1 [.t 19, .t 20]), AO 22 (.call 87 [.t 21]), AO 23 (.len (.t 22)), AO 24 (.mv (.c (.int .i64 (0))))]).seq (ACode.block 0 ((AR [AO 25 (.bin .lss (.t 24) (.t 23))]).seq ((ACode.cond (.t 25) ACode.skip (ACode.exit 0)).seq ((ACode.block 1 ((AR [AO 26 (.idxAddr 2 (.t 22) (.t 24)), AO 27 (.load 2 true (.t 26)), AO 9 (.alloc [.int .i64 (0), .int .i64 (0)]), ⟨none, .store 2 (.t 9) (.t 27), none, []⟩]).seq (AR [AM 28 7, AO 29 (.fieldAddr 0 (.t 9)), AO 30 (.load 1 false (.t 29)), AO 31 (.fieldAddr 1 (.t 9)), AO 32 (.load 1 false (.t 31)), AO 33 (.buildSlice 3 1 [.t 30, .t 32]), AO 34 (.append 3 1 8 (.t 28) (.t 33)), AM 7 34]))).seq (AR [AO 35 (.bin .add (.t 24) (.c (.int .i64 (1)))), AM 24 35])))).loop)).seq ((AR [AM 36 7, AO 37 (.call 33 [.t 36])]).seq ((AR [AM 38 7, AO 39 (.call 34 [.t 38]), AM 7 39]).seq ((AR [AO 10 (.alloc [.slice none 0 0])]).seq ((AR [AO 11 (.alloc [.int .i64 (0)]), AO 12 (.alloc [.int .i64 (0)]), ⟨none, .store 1 (.t 11) (.c (.int .i64 (0))), none, []⟩, ⟨none, .store 1 (.t 12) (.c (.int .i64 (0))), none, []⟩]).seq ((AR [AO 40 (.mkfn 88 [.t 11, .t 3, .t 12, .t 4, .t 5, .t 10]), AM 13 40]).seq (((AR [AO 14 (.mv (.c (.int .i64 (1))))]).seq (ACode.block 2 (((AR [AM 41 14, AM 42 7, AO 43 (.len (.t 42)), AO 44 (.bin .lss (.t 41) (.t 43))]).seq (ACode.cond (.t 44) ACode.skip (ACode.exit 2))).seq ((ACode.block 3 (ACode.region true [AM 47 13, AM 48 7, AM 49 14, ⟨some 50, .bin .sub (.t 49) (.c (.int .i64 (1))), none, [2]⟩, ⟨some 51, .idxAddr 1 (.t 48) (.t 50), none, [1, 3]⟩, ⟨some 52, .load 1 false (.t 51), none, [4]⟩, AM 53 7, AM 54 14, ⟨some 55, .idxAddr 1 (.t 53) (.t 54), none, [6, 7]⟩, ⟨some 56, .load 1 false (.t 55), none, [8]⟩, ⟨some 57, .callv (.t 47) [.t 52, .t 56], none, [0, 5, 9]⟩])).seq (AR [AM 45 14, AO 46 (.bin .add (.t 45) (.c (.int .i64 (1)))), AM 14 46]))).loop)).seq ((AR [AO 58 (.load 1 false (.t 10)), AO 59 (.call 86 [.t 58]), AM 6 59]).seq ACode.ret)))))))))))
theorem Tryz.F57 : FnFacts Tryz.prog 57 Tryz.f57 Tryz.ac57 60 [.tmp 6] := ⟨Tryz.func57, by kernel_rfl, by kernel_rfl, by kernel_rfl, by kernel_rfl, by kernel_rfl, by kernel_rfl, by kernel_rfl⟩
def Tryz.ac58 : ACode := ((AR [AO 4 (.mv (.c (.bool false)))]).seq ((AR [AM 5 0, AM 6 5, ⟨some 7, .mv (.t 1), some (6, true), []⟩, ⟨some 8, .un .not (.t 7), some (6, true), []⟩, AO 9 (.pick (.t 6) (.t 8) (.c (.bool false))), AM 4 9]).seq ACode.ret))
theorem Tryz.F58 : FnFacts Tryz.prog 58 Tryz.f58 Tryz.ac58 10 [.tmp 4] := ⟨Tryz.func58, by kernel_rfl, by kernel_rfl, by kernel_rfl, by kernel_rfl, by kernel_rfl, by kernel_rfl, by kernel_rfl⟩
def Tryz.ac59 : ACode := ((AR [AO 4 (.mv (.c (.bool false)))]).seq ((AR [AM 5 0, AM 6 5, ⟨some 7, .mv (.t 1), some (6, true), []⟩, AO 8 (.pick (.t 6) (.t 7) (.c (.bool false))), AM 4 8]).seq ACode.ret))
theorem Tryz.F59 : FnFacts Tryz.prog 59 Tryz.f59 Tryz.ac59 9 [.tmp 4] := ⟨Tryz.func59, by kernel_rfl, by kernel_rfl, by kernel_rfl, by kernel_rfl, by kernel_rfl, by kernel_rfl, by kernel_rfl⟩
def Tryz.ac61 : ACode := ((AR [AO 2 (.mv (.c (.bool false)))]).seq ((AR [AM 6 0, AO 7 (.len (.t 6)), AO 8 (.bin .sub (.t 7) (.c (.int .i64 (1)))), AM 3 8]).seq (((AR [AM 9 0, AO 10 (.len (.t 9)), AO 11 (.mv (.c (.int .i64 (0))))]).seq (ACode.block 0 ((AR [AO 12 (.bin .lss (.t 11) (.t 10))]).seq ((ACode.cond (.t 12) ACode.skip (ACode.exit 0)).seq ((ACode.block 1 ((AR [AO 13 (.idxAddr 1 (.t 9) (.t 11)), AO 14 (.load 1 false (.t 13)), AM 5 14]).seq (((AR [AM 15 5, AO 16 (.call 49 [.t 15]), AO 17 (.un .not (.t 16))]).seq (ACode.cond (.t 17) ((AR [AO 2 (.mv (.c (.bool false)))]).seq ACode.ret) ACode.skip)).seq (AR [AM 18 3, AM 19 5, AO 20 (.lenStr (.t 19)), AO 21 (.bin .add (.t 18) (.t 20)), AM 3 21])))).seq (AR [AO 22 (.bin .add (.t 11) (.c (.int .i64 (1)))), AM 11 22])))).loop)).seq ((AR [AM 23 0, AO 24 (.len (.t 23)), AO 25 (.bin .geq (.t 24) (.c (.int .i64 (1)))), AM 26 25, ⟨some 27, .mv (.t 0), some (26, true), []⟩, ⟨some 28, .len (.t 27), some (26, true), []⟩, ⟨some 29, .bin .leq (.t 28) (.c (.int .i64 (8))), some (26, true), []⟩, AO 30 (.pick (.t 26) (.t 29) (.c (.bool false))), AM 31 30, ⟨some 32, .mv (.t 3), some (31, true), []⟩, ⟨some 33, .bin .leq (.t 32) (.c (.int .i64 (64))), some (31, true), []⟩, AO 34 (.pick (.t 31) (.t 33) (.c (.bool false))), AM 2 34]).seq ACode.ret))))
theorem Tryz.F61 : FnFacts Tryz.prog 61 Tryz.f61 Tryz.ac61 35 [.tmp 2] := ⟨Tryz.func61, by kernel_rfl, by kernel_rfl, by kernel_rfl, by kernel_rfl, by kernel_rfl, by kernel_rfl, by kernel_rfl⟩
def Tryz.ac62 : ACode := ((AR [AO 4 (.mv (.c (.slice none 0 0)))]).seq ((AR [AM 5 0, AM 6 1, AO 7 (.call 89 [.t 5, .t 6, .c (.int .i64 (0)), .c (.int .i64 (Int.negSucc 0))]), AM 4 7]).seq ACode.ret))
theorem Tryz.F62 : FnFacts Tryz.prog 62 Tryz.f62 Tryz.ac62 8 [.tmp 4] := ⟨Tryz.func62, by kernel_rfl, by kernel_rfl, by kernel_rfl, by kernel_rfl, by kernel_rfl, by kernel_rfl, by kernel_rfl⟩
def Tryz.ac63 : ACode := ((AR [AO 2 (.box 8 (.t 0)), AO 3 (.mv (.c (.bool false)))]).seq ((AR [AO 4 (.load 8 true (.t 1)), AO 5 (.load 8 true (.t 2)), AO 6 (.call 64 [.t 4, .t 5]), AM 3 6]).seq ACode.ret))
theorem Tryz.F63 : FnFacts Tryz.prog 63 Tryz.f63 Tryz.ac63 7 [.tmp 3] := ⟨Tryz.func63, by kernel_rfl, by kernel_rfl, by kernel_rfl, by kernel_rfl, by kernel_rfl, by kernel_rfl, by kernel_rfl⟩
def Tryz.ac64 : ACode := ((AR [AO 2 (.box 8 (.t 0)), AO 3 (.box 8 (.t 1)), AO 4 (.mv (.c (.bool false)))]).seq ((AR [AO 5 (.fieldAddr 6 (.t 2)), AO 6 (.fieldAddr 0 (.t 5)), AO 7 (.load 1 false (.t 6)), AO 8 (.fieldAddr 6 (.t 3)), AO 9 (.fieldAddr 1 (.t 8)), AO 10 (.load 1 false (.t 9)), AO 11 (.bin .lss (.t 7) (.t 10)), AM 12 11, ⟨some 13, .fieldAddr 6 (.t 3), some (12, true), []⟩, ⟨some 14, .fieldAddr 0 (.t 13), some (12, true), []⟩, ⟨some 15, .load 1 false (.t 14), some (12, true), []⟩, ⟨some 16, .fieldAddr 6 (.t 2), some (12, true), []⟩, ⟨some 17, .fieldAddr 1 (.t 16), some (12, true), []⟩, ⟨some 18, .load 1 false (.t 17), some (12, true), []⟩, ⟨some 19, .bin .lss (.t 15) (.t 18), some (12, true), []⟩, AO 20 (.pick (.t 12) (.t 19) (.c (.bool false))), AM 21 20, ⟨some 22, .fieldAddr 2 (.t 2), some (21, true), []⟩, ⟨some 23, .fieldAddr 0 (.t 22), some (21, true), []⟩, ⟨some 24, .load 1 false (.t 23), some (21, true), []⟩, ⟨some 25, .fieldAddr 2 (.t 3), some (21, true), []⟩, ⟨some 26, .fieldAddr 0 (.t 25), some (21, true), []⟩, ⟨some 27, .load 1 false (.t 26), some (21, true), []⟩, ⟨some 28, .fieldAddr 4 (.t 3), some (21, true), []⟩, ⟨some 29, .load 1 false (.t 28), some (21, true), []⟩, ⟨some 30, .bin .add (.t 27) (.t 29), some (21, true), []⟩, ⟨some 31, .bin .lss (.t 24) (.t 30), some (21, true), []⟩, AO 32 (.pick (.t 21) (.t 31) (.c (.bool false))), AM 33 32, ⟨some 34, .fieldAddr 2 (.t 3), some (33, true), []⟩, ⟨some 35, .fieldAddr 0 (.t 34), some (33, true), []⟩, ⟨some 36, .load 1 false (.t 35), some (33, true), []⟩, ⟨some 37, .fieldAddr 2 (.t 2), some (33, true), []⟩, ⟨some 38, .fieldAddr 0 (.t 37), some (33, true), []⟩, ⟨some 39, .load 1 false (.t 38), some (33, true), []⟩, ⟨some 40, .fieldAddr 4 (.t 2), some (33, true), []⟩, ⟨some 41, .load 1 false (.t 40), some (33, true), []⟩, ⟨some 42, .bin .add (.t 39) (.t 41), some (33, true), []⟩, ⟨some 43, .bin .lss (.t 36) (.t 42), some (33, true), []⟩, AO 44 (.pick (.t 33) (.t 43) (.c (.bool false))), AM 45 44, ⟨some 46, .fieldAddr 2 (.t 2), some (45, true), []⟩, ⟨some 47, .fieldAddr 1 (.t 46), some (45, true), []⟩, ⟨some 48, .load 1 false (.t 47), some (45, true), []⟩, ⟨some 49, .fieldAddr 2 (.t 3), some (45, true), []⟩, ⟨some 50, .fieldAddr 1 (.t 49), some (45, true), []⟩, ⟨some 51, .load 1 false (.t 50), some (45, true), []⟩, ⟨some 52, .fieldAddr 5 (.t 3), some (45, true), []⟩, ⟨some 53, .load 1 false (.t 52), some (45, true), []⟩, ⟨some 54, .bin .add (.t 51) (.t 53), some (45, true), []⟩, ⟨some 55, .bin .lss (.t 48) (.t 54), some (45, true), []⟩, AO 56 (.pick (.t 45) (.t 55) (.c (.bool false))), AM 57 56, ⟨some 58, .fieldAddr 2 (.t 3), some (57, true), []⟩, ⟨some 59, .fieldAddr 1 (.t 58), some (57, true), []⟩, ⟨some 60, .load 1 false (.t 59), some (57, true), []⟩, ⟨some 61, .fieldAddr 2 (.t 2), some (57, true), []⟩, ⟨some 62, .fieldAddr 1 (.t 61), some (57, true), []⟩, ⟨some 63, .load 1 false (.t 62), some (57, true), []⟩, ⟨some 64, .fieldAddr 5 (.t 2), some (57, true), []⟩, ⟨some 65, .load 1 false (.t 64), some (57, true), []⟩, ⟨some 66, .bin .add (.t 63) (.t 65), some (57, true), []⟩, ⟨some 67, .bin .lss (.t 60) (.t 66), some (57, true), []⟩, AO 68 (.pick (.t 57) (.t 67) (.c (.bool false))), AM 4 68]).seq ACode.ret))
theorem Tryz.F64 : FnFacts Tryz.prog 64 Tryz.f64 Tryz.ac64 69 [.tmp 4] := ⟨Tryz.func64, by kernel_rfl, by kernel_rfl, by kernel_rfl, by kernel_rfl, by kernel_rfl, by kernel_rfl, by kernel_rfl⟩
def Tryz.ac67 : ACode := ((AR [AO 4 (.mv (.c (.int .i64 (0))))]).seq (((AR [AM 6 0, AO 7 (.len (.t 6)), AO 8 (.mv (.c (.int .i64 (0))))]).seq (ACode.block 0 ((AR [AO 9 (.bin .lss (.t 8) (.t 7))]).seq ((ACode.cond (.t 9) ACode.skip (ACode.exit 0)).seq ((ACode.block 1 ((AR [AM 10 8, AM 5 10]).seq ((AR [AM 11 1, AM 12 0, AM 13 5, AO 14 (.idxAddr 3 (.t 12) (.t 13)), AO 15 (.load 3 true (.t 14)), AO 16 (.callv (.t 11) [.t 15])]).seq (ACode.cond (.t 16) ((AR [AM 17 5, AM 4 17]).seq ACode.ret) ACode.skip)))).seq (AR [AO 18 (.bin .add (.t 8) (.c (.int .i64 (1)))), AM 8 18])))).loop)).seq ((AR [AO 4 (.mv (.c (.int .i64 (Int.negSucc 0))))]).seq ACode.ret)))
theorem Tryz.F67 : FnFacts Tryz.prog 67 Tryz.f67 Tryz.ac67 19 [.tmp 4] := ⟨Tryz.func67, by kernel_rfl, by kernel_rfl, by kernel_rfl, by kernel_rfl, by kernel_rfl, by kernel_rfl, by kernel_rfl⟩
def Tryz.ac68 : ACode := ((AR [AO 2 (.box 3 (.t 0)), AO 3 (.mv (.c (.bool false)))]).seq ((AR [AO 4 (.fieldAddr 0 (.t 2)), AO 5 (.load 1 false (.t 4)), AO 6 (.load 1 false (.t 1)), AO 7 (.bin .eql (.t 5) (.t 6)), AM 3 7]).seq ACode.ret))
theorem Tryz.F68 : FnFacts Tryz.prog 68 Tryz.f68 Tryz.ac68 8 [.tmp 3] := ⟨Tryz.func68, by kernel_rfl, by kernel_rfl, by kernel_rfl, by kernel_rfl, by kernel_rfl, by kernel_rfl, by kernel_rfl⟩
def Tryz.ac69 : ACode := ((AR [AO 4 (.mv (.c (.bool false)))]).seq ((AR [AM 5 0, AM 6 1, AO 7 (.call 92 [.t 5, .t 6]), AO 8 (.bin .geq (.t 7) (.c (.int .i64 (0)))), AM 4 8]).seq ACode.ret))
theorem Tryz.F69 : FnFacts Tryz.prog 69 Tryz.f69 Tryz.ac69 9 [.tmp 4] := ⟨Tryz.func69, by kernel_rfl, by kernel_rfl, by kernel_rfl, by kernel_rfl, by kernel_rfl, by kernel_rfl, by kernel_rfl⟩
def Tryz.ac70 : ACode := ((AR [AO 2 (.box 8 (.t 0)), AO 3 (.mv (.c (.bool false)))]).seq ((AR [AO 4 (.load 8 true (.t 1)), AO 5 (.load 8 true (.t 2)), AO 6 (.call 71 [.t 4, .t 5]), AM 3 6]).seq ACode.ret))
theorem Tryz.F70 : FnFacts Tryz.prog 70 Tryz.f70 Tryz.ac70 7 [.tmp 3] := ⟨Tryz.func70, by kernel_rfl, by kernel_rfl, by kernel_rfl, by kernel_rfl, by kernel_rfl, by kernel_rfl, by kernel_rfl⟩
def Tryz.ac71 : ACode := ((AR [AO 2 (.box 8 (.t 0)), AO 3 (.box 8 (.t 1)), AO 4 (.mv (.c (.bool false)))]).seq ((AR [AO 5 (.fieldAddr 1 (.t 2)), AO 6 (.load 1 false (.t 5)), AO 7 (.fieldAddr 1 (.t 3)), AO 8 (.load 1 false (.t 7)), AO 9 (.bin .eql (.t 6) (.t 8)), AM 10 9, ⟨some 11, .fieldAddr 6 (.t 2), some (10, true), []⟩, ⟨some 12, .fieldAddr 0 (.t 11), some (10, true), []⟩, ⟨some 13, .load 1 false (.t 12), some (10, true), []⟩, ⟨some 14, .fieldAddr 6 (.t 3), some (10, true), []⟩, ⟨some 15, .fieldAddr 1 (.t 14), some (10, true), []⟩, ⟨some 16, .load 1 false (.t 15), some (10, true), []⟩, ⟨some 17, .bin .lss (.t 13) (.t 16), some (10, true), []⟩, AO 18 (.pick (.t 10) (.t 17) (.c (.bool false))), AM 19 18, ⟨some 20, .fieldAddr 6 (.t 3), some (19, true), []⟩, ⟨some 21, .fieldAddr 0 (.t 20), some (19, true), []⟩, ⟨some 22, .load 1 false (.t 21), some (19, true), []⟩, ⟨some 23, .fieldAddr 6 (.t 2), some (19, true), []⟩, ⟨some 24, .fieldAddr 1 (.t 23), some (19, true), []⟩, ⟨some 25, .load 1 false (.t 24), some (19, true), []⟩, ⟨some 26, .bin .lss (.t 22) (.t 25), some (19, true), []⟩, AO 27 (.pick (.t 19) (.t 26) (.c (.bool false))), AM 28 27, ⟨some 29, .fieldAddr 2 (.t 2), some (28, true), []⟩, ⟨some 30, .fieldAddr 0 (.t 29), some (28, true), []⟩, ⟨some 31, .load 1 false (.t 30), some (28, true), []⟩, ⟨some 32, .fieldAddr 4 (.t 2), some (28, true), []⟩, ⟨some 33, .load 1 false (.t 32), some (28, true), []⟩, ⟨some 34, .fieldAddr 2 (.t 3), some (28, true), []⟩, ⟨some 35, .fieldAddr 0 (.t 34), some (28, true), []⟩, ⟨some 36, .load 1 false (.t 35), some (28, true), []⟩, ⟨some 37, .fieldAddr 4 (.t 3), some (28, true), []⟩, ⟨some 38, .load 1 false (.t 37), some (28, true), []⟩, ⟨some 39, .call 93 [.t 31, .t 33, .t 36, .t 38], some (28, true), []⟩, AO 40 (.pick (.t 28) (.t 39) (.c (.bool false))), AM 41 40, ⟨some 42, .fieldAddr 2 (.t 2), some (41, true), []⟩, ⟨some 43, .fieldAddr 1 (.t 42), some (41, true), []⟩, ⟨some 44, .load 1 false (.t 43), some (41, true), []⟩, ⟨some 45, .fieldAddr 5 (.t 2), some (41, true), []⟩, ⟨some 46, .load 1 false (.t 45), some (41, true), []⟩, ⟨some 47, .fieldAddr 2 (.t 3), some (41, true), []⟩, ⟨some 48, .fieldAddr 1 (.t 47), some (41, true), []⟩, ⟨some 49, .load 1 false (.t 48), some (41, true), []⟩, ⟨some 50, .fieldAddr 5 (.t 3), some (41, true), []⟩, ⟨some 51, .load 1 false (.t 50), some (41, true), []⟩, ⟨some 52, .call 93 [.t 44, .t 46, .t 49, .t 51], some (41, true), []⟩, AO 53 (.pick (.t 41) (.t 52) (.c (.bool false))), AM 4 53]).seq ACode.ret))
theorem Tryz.F71 : FnFacts Tryz.prog 71 Tryz.f71 Tryz.ac71 54 [.tmp 4] := ⟨Tryz.func71, by kernel_rfl, by kernel_rfl, by kernel_rfl, by kernel_rfl, by kernel_rfl, by kernel_rfl, by kernel_rfl⟩
def Tryz.ac86 : ACode := ((AR [AO 2 (.mv (.c (.slice none 0 0)))]).seq ((AR [AM 8 0, AO 9 (.call 101 [.t 8]), AO 10 (.call 100 [.t 9, .f 102]), AM 3 10]).seq ((AR [AM 11 3, AO 12 (.call 103 [.t 11, .f 104])]).seq ((AR [AO 4 (.mv (.c (.slice none 0 0)))]).seq (((AR [AM 13 3, AO 14 (.len (.t 13)), AO 15 (.mv (.c (.int .i64 (0))))]).seq (ACode.block 0 ((AR [AO 16 (.bin .lss (.t 15) (.t 14))]).seq ((ACode.cond (.t 16) ACode.skip (ACode.exit 0)).seq ((ACode.block 1 ((AR [AO 17 (.idxAddr 2 (.t 13) (.t 15)), AO 18 (.load 2 true (.t 17)), AO 6 (.alloc [.int .i64 (0), .int .i64 (0)]), ⟨none, .store 2 (.t 6) (.t 18), none, []⟩]).seq ((AR [AM 19 4, AO 20 (.len (.t 19)), AM 7 20]).seq ((ACode.region true [AM 21 7, ⟨some 22, .bin .gtr (.t 21) (.c (.int .i64 (0))), none, [0]⟩, ⟨some 23, .mv (.t 22), none, [1]⟩, ⟨some 24, .fieldAddr 0 (.t 6), some (23, true), [2]⟩, ⟨some 25, .load 1 false (.t 24), some (23, true), [3, 2]⟩, ⟨some 26, .mv (.t 4), some (23, true), [2]⟩, ⟨some 27, .mv (.t 7), some (23, true), [2]⟩, ⟨some 28, .bin .sub (.t 27) (.c (.int .i64 (1))), some (23, true), [6, 2]⟩, ⟨some 29, .idxAddr 2 (.t 26) (.t 28), some (23, true), [5, 7, 2]⟩, ⟨some 30, .fieldAddr 1 (.t 29), some (23, true), [8, 2]⟩, ⟨some 31, .load 1 false (.t 30), some (23, true), [9, 2]⟩, ⟨some 32, .bin .leq (.t 25) (.t 31), some (23, true), [4, 10, 2]⟩, ⟨some 33, .pick (.t 23) (.t 32) (.c (.bool false)), none, [2, 11]⟩]).seq (ACode.cond (.t 33) (ACode.region true [AM 34 4, AM 35 7, ⟨some 36, .bin .sub (.t 35) (.c (.int .i64 (1))), none, [1]⟩, AM 37 4, AM 38 7, ⟨some 39, .bin .sub (.t 38) (.c (.int .i64 (1))), none, [4]⟩, ⟨some 40, .idxAddr 2 (.t 37) (.t 39), none, [3, 5]⟩, ⟨some 41, .fieldAddr 1 (.t 40), none, [6]⟩, ⟨some 42, .load 1 false (.t 41), none, [7]⟩, AO 43 (.fieldAddr 1 (.t 6)), ⟨some 44, .load 1 false (.t 43), none, [9]⟩, ⟨some 45, .minmax true (.t 42) (.t 44), none, [8, 10]⟩, ⟨some 46, .idxAddr 2 (.t 34) (.t 36), none, [0, 2, 0, 1, 2, 3, 4, 5, 6, 7, 8, 9, 10, 11]⟩, ⟨some 47, .fieldAddr 1 (.t 46), none, [12, 0, 1, 2, 3, 4, 5, 6, 7, 8, 9, 10, 11]⟩, ⟨none, .store 1 (.t 47) (.t 45), none, [13, 11, 0, 1, 2, 3, 4, 5, 6, 7, 8, 9, 10, 11]⟩]) (AR [AM 48 4, AO 49 (.load 2 true (.t 6)), AO 50 (.buildSlice 30 2 [.t 49]), AO 51 (.append 30 2 16 (.t 48) (.t 50)), AM 4 51])))))).seq (AR [AO 52 (.bin .add (.t 15) (.c (.int .i64 (1)))), AM 15 52])))).loop)).seq ((AR [AM 53 4, AM 2 53]).seq ACode.ret))))))
theorem Tryz.F86 : FnFacts Tryz.prog 86 Tryz.f86 Tryz.ac86 54 [.tmp 2] := ⟨Tryz.func86, by kernel_rfl, by kernel_rfl, by kernel_rfl, by kernel_rfl, by kernel_rfl, by kernel_rfl, by kernel_rfl⟩
def Tryz.ac87 : ACode := ((AR [AO 2 (.mv (.c (.slice none 0 0)))]).seq ((AR [AO 3 (.mv (.c (.int .i64 (0))))]).seq (((AR [AM 9 0, AO 10 (.len (.t 9)), AO 11 (.mv (.c (.int .i64 (0))))]).seq (ACode.block 0 ((AR [AO 12 (.bin .lss (.t 11) (.t 10))]).seq ((ACode.cond (.t 12) ACode.skip (ACode.exit 0)).seq ((ACode.block 1 ((AR [AO 13 (.idxAddr 1 (.t 9) (.t 11)), AO 14 (.load 1 false (.t 13)), AM 5 14]).seq ((AR [AM 15 3, AM 16 5, AO 17 (.len (.t 16)), AO 18 (.bin .add (.t 15) (.t 17)), AM 3 18]).seq ((AR [AM 19 3, AO 20 (.bin .lss (.t 19) (.c (.int .i64 (0))))]).seq (ACode.cond (.t 20) (AR [AO 21 (.bad), ⟨none, .bad, none, []⟩]) ACode.skip))))).seq (AR [AO 22 (.bin .add (.t 11) (.c (.int .i64 (1)))), AM 11 22])))).loop)).seq ((AR [AM 23 3, AO 24 (.call 106 [.c (.slice none 0 0), .t 23]), AM 6 24]).seq (((AR [AM 25 0, AO 26 (.len (.t 25)), AO 27 (.mv (.c (.int .i64 (0))))]).seq (ACode.block 2 ((AR [AO 28 (.bin .lss (.t 27) (.t 26))]).seq ((ACode.cond (.t 28) ACode.skip (ACode.exit 2)).seq ((ACode.block 3 ((AR [AO 29 (.idxAddr 1 (.t 25) (.t 27)), AO 30 (.load 1 false (.t 29)), AM 8 30]).seq (AR [AM 31 6, AM 32 8, AO 33 (.append 30 2 16 (.t 31) (.t 32)), AM 6 33]))).seq (AR [AO 34 (.bin .add (.t 27) (.c (.int .i64 (1)))), AM 27 34])))).loop)).seq ((AR [AM 35 6, AM 2 35]).seq ACode.ret))))))
theorem Tryz.F87 : FnFacts Tryz.prog 87 Tryz.f87 Tryz.ac87 36 [.tmp 2] := ⟨Tryz.func87, by kernel_rfl, by kernel_rfl, by kernel_rfl, by kernel_rfl, by kernel_rfl, by kernel_rfl, by kernel_rfl⟩
def Tryz.ac88 : ACode := ((ACode.block 0 (((AR [AO 10 (.load 1 false (.t 2)), AO 11 (.load 1 false (.t 3)), AO 12 (.len (.t 11)), AO 13 (.bin .lss (.t 10) (.t 12)), AM 14 13, ⟨some 15, .load 1 false (.t 3), some (14, true), []⟩, ⟨some 16, .load 1 false (.t 2), some (14, true), []⟩, ⟨some 17, .idxAddr 2 (.t 15) (.t 16), some (14, true), []⟩, ⟨some 18, .fieldAddr 1 (.t 17), some (14, true), []⟩, ⟨some 19, .load 1 false (.t 18), some (14, true), []⟩, ⟨some 20, .mv (.t 0), some (14, true), []⟩, ⟨some 21, .bin .leq (.t 19) (.t 20), some (14, true), []⟩, AO 22 (.pick (.t 14) (.t 21) (.c (.bool false)))]).seq (ACode.cond (.t 22) ACode.skip (ACode.exit 0))).seq (ACode.block 1 (AR [AO 23 (.load 1 false (.t 2)), AO 24 (.bin .add (.t 23) (.c (.int .i64 (1)))), ⟨none, .store 1 (.t 2) (.t 24), none, []⟩]))).loop).seq ((ACode.block 2 (((AR [AO 25 (.load 1 false (.t 4)), AO 26 (.load 1 false (.t 5)), AO 27 (.len (.t 26)), AO 28 (.bin .lss (.t 25) (.t 27)), AM 29 28, ⟨some 30, .load 1 false (.t 5), some (29, true), []⟩, ⟨some 31, .load 1 false (.t 4), some (29, true), []⟩, ⟨some 32, .idxAddr 2 (.t 30) (.t 31), some (29, true), []⟩, ⟨some 33, .fieldAddr 1 (.t 32), some (29, true), []⟩, ⟨some 34, .load 1 false (.t 33), some (29, true), []⟩, ⟨some 35, .mv (.t 0), some (29, true), []⟩, ⟨some 36, .bin .leq (.t 34) (.t 35), some (29, true), []⟩, AO 37 (.pick (.t 29) (.t 36) (.c (.bool false)))]).seq (ACode.cond (.t 37) ACode.skip (ACode.exit 2))).seq (ACode.block 3 (AR [AO 38 (.load 1 false (.t 4)), AO 39 (.bin .add (.t 38) (.c (.int .i64 (1)))), ⟨none, .store 1 (.t 4) (.t 39), none, []⟩]))).loop).seq ((ACode.region true [AO 40 (.load 1 false (.t 6)), AO 41 (.load 1 false (.t 2)), AO 42 (.load 1 false (.t 3)), ⟨some 43, .len (.t 42), none, [2]⟩, ⟨some 44, .bin .lss (.t 41) (.t 43), none, [1, 3]⟩, ⟨some 45, .mv (.t 44), none, [4]⟩, ⟨some 46, .load 1 false (.t 3), some (45, true), [5]⟩, ⟨some 47, .load 1 false (.t 2), some (45, true), [5]⟩, ⟨some 48, .idxAddr 2 (.t 46) (.t 47), some (45, true), [6, 7, 5]⟩, ⟨some 49, .fieldAddr 0 (.t 48), some (45, true), [8, 5]⟩, ⟨some 50, .load 1 false (.t 49), some (45, true), [9, 5]⟩, ⟨some 51, .mv (.t 0), some (45, true), [5]⟩, ⟨some 52, .bin .leq (.t 50) (.t 51), some (45, true), [10, 11, 5]⟩, ⟨some 53, .pick (.t 45) (.t 52) (.c (.bool false)), none, [5, 12]⟩, AO 54 (.load 1 false (.t 4)), AO 55 (.load 1 false (.t 5)), ⟨some 56, .len (.t 55), none, [15]⟩, ⟨some 57, .bin .lss (.t 54) (.t 56), none, [14, 16]⟩, ⟨some 58, .mv (.t 57), none, [17, 5]⟩, ⟨some 59, .load 1 false (.t 5), some (58, true), [18]⟩, ⟨some 60, .load 1 false (.t 4), some (58, true), [18]⟩, ⟨some 61, .idxAddr 2 (.t 59) (.t 60), some (58, true), [19, 20, 18]⟩, ⟨some 62, .fieldAddr 0 (.t 61), some (58, true), [21, 18]⟩, ⟨some 63, .load 1 false (.t 62), some (58, true), [22, 18]⟩, ⟨some 64, .mv (.t 0), some (58, true), [18]⟩, ⟨some 65, .bin .leq (.t 63) (.t 64), some (58, true), [23, 24, 18]⟩, ⟨some 66, .pick (.t 58) (.t 65) (.c (.bool false)), none, [18, 25]⟩, ⟨some 67, .callv (.t 40) [.t 53, .t 66], none, [0, 13, 26, 18]⟩]).seq (ACode.cond (.t 67) (AR [AO 68 (.load 1 false (.t 7)), AM 69 0, AM 70 1, AO 71 (.build [.int .i64 (0), .int .i64 (0)] [(0, 1, .t 69), (1, 1, .t 70)]), AO 72 (.buildSlice 30 2 [.t 71]), AO 73 (.append 30 2 16 (.t 68) (.t 72)), ⟨none, .store 1 (.t 7) (.t 73), none, []⟩]) ACode.skip))))
theorem Tryz.F88 : FnFacts Tryz.prog 88 Tryz.f88 Tryz.ac88 74 [] := ⟨Tryz.func88, by kernel_rfl, by kernel_rfl, by kernel_rfl, by kernel_rfl, by kernel_rfl, by kernel_rfl, by kernel_rfl⟩
def Tryz.ac89 : ACode := ((AR [AO 8 (.mv (.c (.slice none 0 0)))]).seq (((AR [AM 12 3, AO 13 (.bin .eql (.t 12) (.c (.int .i64 (0))))]).seq (ACode.cond (.t 13) ((AR [AO 8 (.mv (.c (.slice none 0 0)))]).seq ACode.ret) ACode.skip)).seq (((AR [AM 14 1, AO 15 (.bin .eql (.t 14) (.c (.string ⟨⟨[]⟩⟩)))]).seq (ACode.cond (.t 15) ((AR [AM 16 0, AM 17 3, AO 18 (.call 107 [.t 16, .t 17]), AM 8 18]).seq ACode.ret) ACode.skip)).seq (((AR [AM 19 3, AO 20 (.bin .lss (.t 19) (.c (.int .i64 (0))))]).seq (ACode.cond (.t 20) (AR [AM 21 0, AM 22 1, AO 23 (.call 108 [.t 21, .t 22]), AO 24 (.bin .add (.t 23) (.c (.int .i64 (1)))), AM 3 24]) ACode.skip)).seq ((AR [AM 25 3, AM 26 0, AO 27 (.lenStr (.t 26)), AO 28 (.bin .add (.t 27) (.c (.int .i64 (1)))), AO 29 (.minmax false (.t 25) (.t 28)), AM 3 29]).seq ((AR [AM 30 3, AO 31 (.make 9 1 16 [.string ⟨⟨[]⟩⟩] (.t 30)), AM 9 31]).seq ((AR [AM 32 3, AO 33 (.bin .sub (.t 32) (.c (.int .i64 (1)))), AM 3 33]).seq ((AR [AO 10 (.mv (.c (.int .i64 (0))))]).seq ((ACode.block 0 (((AR [AM 34 10, AM 35 3, AO 36 (.bin .lss (.t 34) (.t 35))]).seq (ACode.cond (.t 36) ACode.skip (ACode.exit 0))).seq (ACode.block 1 ((AR [AM 37 0, AM 38 1, AO 39 (.call 109 [.t 37, .t 38]), AM 11 39]).seq (((AR [AM 40 11, AO 41 (.bin .lss (.t 40) (.c (.int .i64 (0))))]).seq (ACode.cond (.t 41) (ACode.exit 0) ACode.skip)).seq ((AR [AM 42 9, AM 43 10, AM 44 0, AM 45 11, AM 46 2, AO 47 (.bin .add (.t 45) (.t 46)), AO 48 (.sliceStr (.t 44) none (some (.t 47))), AO 49 (.idxAddr 1 (.t 42) (.t 43)), ⟨none, .store 1 (.t 49) (.t 48), none, []⟩]).seq ((AR [AM 50 0, AM 51 11, AM 52 1, AO 53 (.lenStr (.t 52)), AO 54 (.bin .add (.t 51) (.t 53)), AO 55 (.sliceStr (.t 50) (some (.t 54)) none), AM 0 55]).seq (AR [AM 56 10, AO 57 (.bin .add (.t 56) (.c (.int .i64 (1)))), AM 10 57]))))))).loop).seq ((AR [AM 58 9, AM 59 10, AM 60 0, AO 61 (.idxAddr 1 (.t 58) (.t 59)), ⟨none, .store 1 (.t 61) (.t 60), none, []⟩]).seq ((AR [AM 62 9, AM 63 10, AO 64 (.bin .add (.t 63) (.c (.int .i64 (1)))), AO 65 (.slice 1 (.t 62) none (some (.t 64))), AM 8 65]).seq ACode.ret)))))))))))
theorem Tryz.F89 : FnFacts Tryz.prog 89 Tryz.f89 Tryz.ac89 66 [.tmp 8] := ⟨Tryz.func89, by kernel_rfl, by kernel_rfl, by kernel_rfl, by kernel_rfl, by kernel_rfl, by kernel_rfl, by kernel_rfl⟩
def Tryz.ac92 : ACode := ((AR [AO 4 (.mv (.c (.int .i64 (0))))]).seq (((AR [AM 6 0, AO 7 (.len (.t 6)), AO 8 (.mv (.c (.int .i64 (0))))]).seq (ACode.block 0 ((AR [AO 9 (.bin .lss (.t 8) (.t 7))]).seq ((ACode.cond (.t 9) ACode.skip (ACode.exit 0)).seq ((ACode.block 1 ((AR [AM 10 8, AM 5 10]).seq ((AR [AM 11 1, AM 12 0, AM 13 5, AO 14 (.idxAddr 8 (.t 12) (.t 13)), AO 15 (.load 8 true (.t 14)), AO 16 (.callv (.t 11) [.t 15])]).seq (ACode.cond (.t 16) ((AR [AM 17 5, AM 4 17]).seq ACode.ret) ACode.skip)))).seq (AR [AO 18 (.bin .add (.t 8) (.c (.int .i64 (1)))), AM 8 18])))).loop)).seq ((AR [AO 4 (.mv (.c (.int .i64 (Int.negSucc 0))))]).seq ACode.ret)))
theorem Tryz.F92 : FnFacts Tryz.prog 92 Tryz.f92 Tryz.ac92 19 [.tmp 4] := ⟨Tryz.func92, by kernel_rfl, by kernel_rfl, by kernel_rfl, by kernel_rfl, by kernel_rfl, by kernel_rfl, by kernel_rfl⟩
def Tryz.ac93 : ACode := ((AR [AO 8 (.mv (.c (.bool false)))]).seq ((AR [AM 9 0, AM 10 2, AM 11 3, AO 12 (.bin .add (.t 10) (.t 11)), AO 13 (.bin .lss (.t 9) (.t 12)), AM 14 13, ⟨some 15, .mv (.t 2), some (14, true), []⟩, ⟨some 16, .mv (.t 0), some (14, true), []⟩, ⟨some 17, .mv (.t 1), some (14, true), []⟩, ⟨some 18, .bin .add (.t 16) (.t 17), some (14, true), []⟩, ⟨some 19, .bin .lss (.t 15) (.t 18), some (14, true), []⟩, AO 20 (.pick (.t 14) (.t 19) (.c (.bool false))), AM 8 20]).seq ACode.ret))
theorem Tryz.F93 : FnFacts Tryz.prog 93 Tryz.f93 Tryz.ac93 21 [.tmp 8] := ⟨Tryz.func93, by kernel_rfl, by kernel_rfl, by kernel_rfl, by kernel_rfl, by kernel_rfl, by kernel_rfl, by kernel_rfl⟩
def Tryz.ac100 : ACode := ((AR [AO 4 (.mv (.c (.slice none 0 0)))]).seq ((AR [AM 8 0, AM 9 1, AO 10 (.call 111 [.t 8, .t 9]), AM 5 10]).seq (((AR [AM 11 5, AO 12 (.bin .eql (.t 11) (.c (.int .i64 (Int.negSucc 0))))]).seq (ACode.cond (.t 12) ((AR [AM 13 0, AM 4 13]).seq ACode.ret) ACode.skip)).seq (((AR [AM 14 5, AO 15 (.bin .add (.t 14) (.c (.int .i64 (1)))), AM 6 15]).seq (ACode.block 0 (((AR [AM 16 6, AM 17 0, AO 18 (.len (.t 17)), AO 19 (.bin .lss (.t 16) (.t 18))]).seq (ACode.cond (.t 19) ACode.skip (ACode.exit 0))).seq ((ACode.block 1 ((AR [AM 22 0, AM 23 6, AO 24 (.idxAddr 2 (.t 22) (.t 23)), AO 25 (.load 2 true (.t 24)), AO 7 (.alloc [.int .i64 (0), .int .i64 (0)]), ⟨none, .store 2 (.t 7) (.t 25), none, []⟩]).seq ((AR [AM 26 1, AO 27 (.load 2 true (.t 7)), AO 28 (.callv (.t 26) [.t 27]), AO 29 (.un .not (.t 28))]).seq (ACode.cond (.t 29) ((AR [AM 30 0, AM 31 5, AO 32 (.load 2 true (.t 7)), AO 33 (.idxAddr 2 (.t 30) (.t 31)), ⟨none, .store 2 (.t 33) (.t 32), none, []⟩]).seq (AR [AM 34 5, AO 35 (.bin .add (.t 34) (.c (.int .i64 (1)))), AM 5 35])) ACode.skip)))).seq (AR [AM 20 6, AO 21 (.bin .add (.t 20) (.c (.int .i64 (1)))), AM 6 21]))).loop)).seq ((AR [AM 36 0, AM 37 5, AO 38 (.slice 2 (.t 36) (some (.t 37)) none), ⟨none, .clear 2 [.int .i64 (0), .int .i64 (0)] (.t 38), none, []⟩]).seq ((AR [AM 39 0, AM 40 5, AO 41 (.slice 2 (.t 39) none (some (.t 40))), AM 4 41]).seq ACode.ret))))))
theorem Tryz.F100 : FnFacts Tryz.prog 100 Tryz.f100 Tryz.ac100 42 [.tmp 4] := ⟨Tryz.func100, by kernel_rfl, by kernel_rfl, by kernel_rfl, by kernel_rfl, by kernel_rfl, by kernel_rfl, by kernel_rfl⟩
def Tryz.ac102 : ACode := ((AR [AO 1 (.box 2 (.t 0)), AO 2 (.mv (.c (.bool false)))]).seq ((AR [AO 3 (.fieldAddr 0 (.t 1)), AO 4 (.load 1 false (.t 3)), AO 5 (.fieldAddr 1 (.t 1)), AO 6 (.load 1 false (.t 5)), AO 7 (.bin .geq (.t 4) (.t 6)), AM 2 7]).seq ACode.ret))
theorem Tryz.F102 : FnFacts Tryz.prog 102 Tryz.f102 Tryz.ac102 8 [.tmp 2] := ⟨Tryz.func102, by kernel_rfl, by kernel_rfl, by kernel_rfl, by kernel_rfl, by kernel_rfl, by kernel_rfl, by kernel_rfl⟩
def Tryz.ac111 : ACode := ((AR [AO 4 (.mv (.c (.int .i64 (0))))]).seq (((AR [AM 6 0, AO 7 (.len (.t 6)), AO 8 (.mv (.c (.int .i64 (0))))]).seq (ACode.block 0 ((AR [AO 9 (.bin .lss (.t 8) (.t 7))]).seq ((ACode.cond (.t 9) ACode.skip (ACode.exit 0)).seq ((ACode.block 1 ((AR [AM 10 8, AM 5 10]).seq ((AR [AM 11 1, AM 12 0, AM 13 5, AO 14 (.idxAddr 2 (.t 12) (.t 13)), AO 15 (.load 2 true (.t 14)), AO 16 (.callv (.t 11) [.t 15])]).seq (ACode.cond (.t 16) ((AR [AM 17 5, AM 4 17]).seq ACode.ret) ACode.skip)))).seq (AR [AO 18 (.bin .add (.t 8) (.c (.int .i64 (1)))), AM 8 18])))).loop)).seq ((AR [AO 4 (.mv (.c (.int .i64 (Int.negSucc 0))))]).seq ACode.ret)))
theorem Tryz.F111 : FnFacts Tryz.prog 111 Tryz.f111 Tryz.ac111 19 [.tmp 4] := ⟨Tryz.func111, by kernel_rfl, by kernel_rfl, by kernel_rfl, by kernel_rfl, by kernel_rfl, by kernel_rfl, by kernel_rfl⟩
end Go.Proofs
