import Derived.Test.YtdgacfkgodbajaaGreatDoorPXF
section
set_option linter.unusedVariables false
set_option linter.unusedSimpArgs false
namespace Go.Ab
open Go.RowKit

section rules
variable {P : Program} {n bs nx : Nat} {S : AState} {Q : AExit → Nat → AState → Prop}

theorem Ghost.refl (bs nx : Nat) (S : AState) : Ghost bs nx S nx S := fun _ β _ _ _ s => ⟨β, s⟩
end rules

end Go.Ab
end
section
set_option linter.unusedVariables false
set_option linter.unusedSimpArgs false
namespace Go.Proofs
open Go Go.Ab
def Tryz.ac6 : ACode := ((ACode.region false [⟨some 5, .box 2 (.t 2), none, []⟩, ⟨some 6, .mv (.c (.bool false)), none, []⟩]).seq (((ACode.region false [⟨some 15, .mv (.t 0), none, []⟩, ⟨some 16, .len (.t 15), none, []⟩, ⟨some 17, .bin .gtr (.t 16) (.c (.int .i64 (80))), none, []⟩, ⟨some 18, .mv (.t 17), none, []⟩, ⟨some 19, .mv (.t 0), some (18, false), []⟩, ⟨some 20, .call 10 [.t 19], some (18, false), []⟩, ⟨some 21, .un .not (.t 20), some (18, false), []⟩, ⟨some 22, .pick (.t 18) (.c (.bool true)) (.t 21), none, []⟩]).seq (ACode.cond (.t 22) ((ACode.region false [⟨some 23, .call 11 [], none, []⟩, ⟨some 6, .mv (.t 23), none, []⟩]).seq ACode.ret) ACode.skip)).seq ((ACode.region false [⟨some 7, .mv (.c (.slice none 0 0)), none, []⟩]).seq (((ACode.region false [⟨some 8, .mv (.c (.int .i64 (0))), none, []⟩]).seq (ACode.block 0 (((ACode.region false [⟨some 24, .mv (.t 8), none, []⟩, ⟨some 25, .mv (.t 0), none, []⟩, ⟨some 26, .len (.t 25), none, []⟩, ⟨some 27, .bin .lss (.t 24) (.t 26), none, []⟩]).seq (ACode.cond (.t 27) ACode.skip (ACode.exit 0))).seq ((ACode.block 1 ((ACode.region false [⟨some 30, .mv (.t 0), none, []⟩, ⟨some 31, .mv (.t 8), none, []⟩, ⟨some 32, .idxAddr 4 (.t 30) (.t 31), none, []⟩, ⟨some 33, .load 4 true (.t 32), none, []⟩, ⟨some 9, .alloc [.string ⟨⟨[]⟩⟩, .int .i64 (0), .int .i64 (0), .int .i64 (0)], none, []⟩, ⟨none, .store 4 (.t 9) (.t 33), none, []⟩]).seq ((ACode.region false [⟨some 35, .mv (.t 7), none, []⟩, ⟨some 36, .load 4 true (.t 9), none, []⟩, ⟨some 37, .mv (.t 1), none, []⟩, ⟨some 38, .call 12 [.t 35, .t 36, .t 37], none, []⟩, ⟨some 34, .mv (.t 38), none, []⟩, ⟨some 39, .extract (.t 34) 0, none, []⟩, ⟨some 40, .extract (.t 34) 1, none, []⟩, ⟨some 10, .mv (.t 39), none, []⟩, ⟨some 11, .mv (.t 40), none, []⟩]).seq (((ACode.region false [⟨some 41, .mv (.t 11), none, []⟩, ⟨some 42, .bin .neq (.t 41) (.c (.int .i64 (0))), none, []⟩]).seq (ACode.cond (.t 42) (((ACode.region false [⟨some 43, .mv (.t 10), none, []⟩, ⟨some 44, .len (.t 43), none, []⟩, ⟨some 45, .bin .neq (.t 44) (.c (.int .i64 (0))), none, []⟩]).seq (ACode.cond (.t 45) ((ACode.region false [⟨some 6, .mv (.c (.bool false)), none, []⟩]).seq ACode.ret) ACode.skip)).seq (ACode.exit 1)) ACode.skip)).seq ((ACode.region false [⟨some 46, .fieldAddr 1 (.t 9), none, []⟩, ⟨some 47, .load 1 false (.t 46), none, []⟩, ⟨some 48, .idxPtr 2 1 (.t 5) (.c (.int .i64 (0))), none, []⟩, ⟨some 49, .load 1 false (.t 48), none, []⟩, ⟨some 50, .bin .eql (.t 47) (.t 49), none, []⟩, ⟨some 51, .mv (.t 50), none, []⟩, ⟨some 52, .fieldAddr 2 (.t 9), some (51, true), []⟩, ⟨some 53, .fieldAddr 0 (.t 52), some (51, true), []⟩, ⟨some 54, .load 1 false (.t 53), some (51, true), []⟩, ⟨some 55, .idxPtr 2 1 (.t 5) (.c (.int .i64 (1))), some (51, true), []⟩, ⟨some 56, .load 1 false (.t 55), some (51, true), []⟩, ⟨some 57, .bin .leq (.t 54) (.t 56), some (51, true), []⟩, ⟨some 58, .pick (.t 51) (.t 57) (.c (.bool false)), none, []⟩, ⟨some 59, .mv (.t 58), none, []⟩, ⟨some 60, .idxPtr 2 1 (.t 5) (.c (.int .i64 (1))), some (59, true), []⟩, ⟨some 61, .load 1 false (.t 60), some (59, true), []⟩, ⟨some 62, .fieldAddr 2 (.t 9), some (59, true), []⟩, ⟨some 63, .fieldAddr 1 (.t 62), some (59, true), []⟩, ⟨some 64, .load 1 false (.t 63), some (59, true), []⟩, ⟨some 65, .bin .lss (.t 61) (.t 64), some (59, true), []⟩, ⟨some 66, .pick (.t 59) (.t 65) (.c (.bool false)), none, []⟩, ⟨some 12, .mv (.t 66), none, []⟩]).seq (((ACode.region false [⟨some 67, .mv (.t 10), none, []⟩, ⟨some 68, .len (.t 67), none, []⟩, ⟨some 69, .mv (.t 7), none, []⟩, ⟨some 70, .len (.t 69), none, []⟩, ⟨some 71, .bin .add (.t 70) (.c (.int .i64 (1))), none, []⟩, ⟨some 72, .bin .neq (.t 68) (.t 71), none, []⟩, ⟨some 73, .mv (.t 72), none, []⟩, ⟨some 74, .mv (.t 10), some (73, false), []⟩, ⟨some 75, .len (.t 74), some (73, false), []⟩, ⟨some 76, .bin .gtr (.t 75) (.c (.int .i64 (64))), some (73, false), []⟩, ⟨some 77, .pick (.t 73) (.c (.bool true)) (.t 76), none, []⟩, ⟨some 78, .mv (.t 77), none, []⟩, ⟨some 79, .mv (.t 10), some (78, false), []⟩, ⟨some 80, .idxPtr 2 1 (.t 5) (.c (.int .i64 (0))), some (78, false), []⟩, ⟨some 81, .load 1 false (.t 80), some (78, false), []⟩, ⟨some 82, .idxPtr 2 1 (.t 5) (.c (.int .i64 (1))), some (78, false), []⟩, ⟨some 83, .load 1 false (.t 82), some (78, false), []⟩, ⟨some 84, .call 15 [.t 79, .t 81, .t 83], some (78, false), []⟩, ⟨some 85, .mv (.t 12), some (78, false), []⟩, ⟨some 86, .mv (.t 85), some (78, false), []⟩, ⟨some 87, .mv (.t 7), some (86, false), []⟩, ⟨some 88, .idxPtr 2 1 (.t 5) (.c (.int .i64 (0))), some (86, false), []⟩, ⟨some 89, .load 1 false (.t 88), some (86, false), []⟩, ⟨some 90, .idxPtr 2 1 (.t 5) (.c (.int .i64 (1))), some (86, false), []⟩, ⟨some 91, .load 1 false (.t 90), some (86, false), []⟩, ⟨some 92, .call 15 [.t 87, .t 89, .t 91], some (86, false), []⟩, ⟨some 93, .pick (.t 86) (.c (.bool true)) (.t 92), some (78, false), []⟩, ⟨some 94, .eqB true (.t 84) (.t 93), some (78, false), []⟩, ⟨some 95, .pick (.t 78) (.c (.bool true)) (.t 94), none, []⟩]).seq (ACode.cond (.t 95) ((ACode.region false [⟨some 6, .mv (.c (.bool false)), none, []⟩]).seq ACode.ret) ACode.skip)).seq ((ACode.region false [⟨some 13, .mv (.c (.int .i64 (0))), none, []⟩]).seq (((ACode.region false [⟨some 14, .mv (.c (.int .i64 (0))), none, []⟩]).seq (ACode.block 2 (((ACode.region false [⟨some 96, .mv (.t 14), none, []⟩, ⟨some 97, .mv (.t 10), none, []⟩, ⟨some 98, .len (.t 97), none, []⟩, ⟨some 99, .bin .lss (.t 96) (.t 98), none, []⟩]).seq (ACode.cond (.t 99) ACode.skip (ACode.exit 2))).seq ((ACode.block 3 (((ACode.region true [⟨some 102, .mv (.t 14), none, []⟩, ⟨some 103, .bin .gtr (.t 102) (.c (.int .i64 (0))), none, [0]⟩, ⟨some 104, .mv (.t 103), none, [1]⟩, ⟨some 105, .mv (.t 10), some (104, true), [2]⟩, ⟨some 106, .mv (.t 14), some (104, true), [2]⟩, ⟨some 107, .idxAddr 4 (.t 105) (.t 106), some (104, true), [3, 4, 2]⟩, ⟨some 108, .fieldAddr 0 (.t 107), some (104, true), [5, 2]⟩, ⟨some 109, .load 1 false (.t 108), some (104, true), [6, 2]⟩, ⟨some 110, .mv (.t 10), some (104, true), [2]⟩, ⟨some 111, .mv (.t 14), some (104, true), [2]⟩, ⟨some 112, .bin .sub (.t 111) (.c (.int .i64 (1))), some (104, true), [9, 2]⟩, ⟨some 113, .idxAddr 4 (.t 110) (.t 112), some (104, true), [8, 10, 2]⟩, ⟨some 114, .fieldAddr 0 (.t 113), some (104, true), [11, 2]⟩, ⟨some 115, .load 1 false (.t 114), some (104, true), [12, 2]⟩, ⟨some 116, .bin .leq (.t 109) (.t 115), some (104, true), [7, 13, 2]⟩, ⟨some 117, .pick (.t 104) (.t 116) (.c (.bool false)), none, [2, 14]⟩, ⟨some 118, .mv (.t 117), none, [15, 2]⟩, ⟨some 119, .mv (.t 10), some (118, false), [16]⟩, ⟨some 120, .mv (.t 14), some (118, false), [16]⟩, ⟨some 121, .idxAddr 4 (.t 119) (.t 120), some (118, false), [17, 18, 16]⟩, ⟨some 122, .fieldAddr 2 (.t 121), some (118, false), [19, 16]⟩, ⟨some 123, .fieldAddr 0 (.t 122), some (118, false), [20, 16]⟩, ⟨some 124, .load 1 false (.t 123), some (118, false), [21, 16]⟩, ⟨some 125, .mv (.t 10), some (118, false), [16]⟩, ⟨some 126, .mv (.t 14), some (118, false), [16]⟩, ⟨some 127, .idxAddr 4 (.t 125) (.t 126), some (118, false), [23, 24, 16]⟩, ⟨some 128, .fieldAddr 2 (.t 127), some (118, false), [25, 16]⟩, ⟨some 129, .fieldAddr 1 (.t 128), some (118, false), [26, 16]⟩, ⟨some 130, .load 1 false (.t 129), some (118, false), [27, 16]⟩, ⟨some 131, .bin .geq (.t 124) (.t 130), some (118, false), [22, 28, 16]⟩, ⟨some 132, .pick (.t 118) (.c (.bool true)) (.t 131), none, [16, 29]⟩]).seq (ACode.cond (.t 132) ((ACode.region false [⟨some 6, .mv (.c (.bool false)), none, []⟩]).seq ACode.ret) ACode.skip)).seq ((ACode.region true [⟨some 133, .mv (.t 10), none, []⟩, ⟨some 134, .mv (.t 14), none, []⟩, ⟨some 135, .idxAddr 4 (.t 133) (.t 134), none, [0, 1]⟩, ⟨some 136, .load 4 true (.t 135), none, [2]⟩, ⟨some 137, .load 4 true (.t 9), none, []⟩, ⟨some 138, .eqAgg false [2, 0, 0, 0] (.t 136) (.t 137), none, [3, 4]⟩]).seq (ACode.cond (.t 138) (ACode.region false [⟨some 139, .mv (.t 13), none, []⟩, ⟨some 140, .bin .add (.t 139) (.c (.int .i64 (1))), none, []⟩, ⟨some 13, .mv (.t 140), none, []⟩]) ACode.skip)))).seq (ACode.region false [⟨some 100, .mv (.t 14), none, []⟩, ⟨some 101, .bin .add (.t 100) (.c (.int .i64 (1))), none, []⟩, ⟨some 14, .mv (.t 101), none, []⟩]))).loop)).seq (((ACode.region false [⟨some 141, .mv (.t 13), none, []⟩, ⟨some 142, .bin .neq (.t 141) (.c (.int .i64 (1))), none, []⟩]).seq (ACode.cond (.t 142) ((ACode.region false [⟨some 6, .mv (.c (.bool false)), none, []⟩]).seq ACode.ret) ACode.skip)).seq (ACode.region false [⟨some 143, .mv (.t 10), none, []⟩, ⟨some 7, .mv (.t 143), none, []⟩])))))))))).seq (ACode.region false [⟨some 28, .mv (.t 8), none, []⟩, ⟨some 29, .bin .add (.t 28) (.c (.int .i64 (1))), none, []⟩, ⟨some 8, .mv (.t 29), none, []⟩]))).loop)).seq ((ACode.region false [⟨some 144, .call 11 [], none, []⟩, ⟨some 6, .mv (.t 144), none, []⟩]).seq ACode.ret)))))
theorem Tryz.F6 : FnFacts Tryz.prog 6 Tryz.f6 Tryz.ac6 145 [.tmp 6] := ⟨Tryz.func6, by kernel_rfl, by kernel_rfl, by kernel_rfl, by kernel_rfl, by kernel_rfl, by kernel_rfl, by kernel_rfl⟩
end Go.Proofs
end
section
set_option linter.unusedVariables false
set_option linter.unusedSimpArgs false
namespace Go.Proofs
open Go Go.Ab
theorem strLess_irrefl (a : ByteArray) : strLess a a = false := by
  rw [Bool.eq_false_iff]
  intro h
  rw [strLess_iff] at h
  exact List.lt_irrefl _ h
end Go.Proofs
end
section
set_option linter.unusedVariables false
set_option linter.unusedSimpArgs false
namespace Go.Proofs
open Go Go.Ab
set_option maxHeartbeats 8000000
set_option maxRecDepth 100000
set_option linter.unusedSimpArgs false
set_option linter.unusedVariables false
attribute [local irreducible] Awp aops aopsL Go.Ab.Pure PureOwn

structure GoodPl (l : List Pt) : Prop where
  asc : l.Pairwise (fun x y => strLess x.id y.id = true)
  sp : ∀ q ∈ l, q.a < q.b
  len : l.length ≤ 64
def eqP (p q : Pt) : Bool := (q.id.toList == p.id.toList) && ((q.k == p.k) && ((q.a == p.a) && (q.b == p.b)))
theorem addE_zero {l : List Pt} {p : Pt} {now : Int} (he : (addE l p now).2 = 0) : (addE l p now).1 = insP l (posP p.id l) p ∧ p.a < p.b ∧ l.any (sameId p.id) = false ∧ l.length < 64 := by
  unfold addE at he ⊢
  cases h1 : idB p.id
  · rw [h1, if_pos (by decide)] at he; cases he
  rw [h1, if_neg (by decide)] at he
  rw [if_neg (by decide)]
  cases h2 : badK p.k
  case true => rw [h2, if_pos rfl] at he; cases he
  rw [h2, if_neg (by decide)] at he
  rw [if_neg (by decide)]
  cases h3 : badT p.a p.b now
  case true => rw [h3, if_pos rfl] at he; cases he
  rw [h3, if_neg (by decide)] at he
  rw [if_neg (by decide)]
  cases h4 : l.any (sameId p.id)
  case true => rw [h4, if_pos rfl] at he; cases he
  rw [h4, if_neg (by decide)] at he
  rw [if_neg (by decide)]
  by_cases h5 : 64 ≤ l.length
  · rw [if_pos h5] at he; cases he
  rw [if_neg h5]
  unfold badT at h3
  simp only [Bool.or_eq_false_iff, decide_eq_false_iff_not] at h3
  exact ⟨rfl, by omega, rfl, by omega⟩
theorem addE_bad {l : List Pt} {p : Pt} {now : Int} (he : (addE l p now).2 ≠ 0) : (addE l p now).1 = [] := by
  unfold addE at he ⊢
  split at he
  · rename_i h; rw [if_pos h]
  rename_i h; rw [if_neg h]
  split at he
  · rename_i h; rw [if_pos h]
  rename_i h; rw [if_neg h]
  split at he
  · rename_i h; rw [if_pos h]
  rename_i h; rw [if_neg h]
  split at he
  · rename_i h; rw [if_pos h]
  rename_i h; rw [if_neg h]
  split at he
  · rename_i h; rw [if_pos h]
  · exact absurd rfl he
theorem posP_eqT (s : ByteArray) (l : List Pt) : posP s l = l.findIdx (gtId s) := by
  unfold posP idxF
  by_cases h : l.findIdx (gtId s) < l.length
  · rw [if_pos h, if_neg (by omega), Int.toNat_natCast]
  · rw [if_neg h, if_pos (by decide)]
    have := List.findIdx_le_length (xs := l) (p := gtId s)
    omega
theorem grow_step {l : List Pt} (h : GoodPl l) {p : Pt} {now : Int} (he : (addE l p now).2 = 0) :
    GoodPl (addE l p now).1 ∧ (addE l p now).1.length = l.length + 1 ∧ (∀ k t, validB (addE l p now).1 k t = (hasP k t p || validB l k t)) ∧ (addE l p now).1.countP (eqP p) = 1 := by
  obtain ⟨e, hab, hno, hlen⟩ := addE_zero he
  rw [e, posP_eqT]
  have hns : ∀ q ∈ l, ¬ q.id.toList = p.id.toList := fun q hq hk => by
    rw [List.any_eq_false] at hno
    exact hno q hq (by unfold sameId; rw [beq_iff_eq]; exact hk)
  have hlt : ∀ x ∈ l.take (l.findIdx (gtId p.id)), strLess x.id p.id = true := fun x hx => by
    obtain ⟨j, hj, rfl⟩ := List.getElem_of_mem hx
    have hj' : j < l.findIdx (gtId p.id) := by rw [List.length_take] at hj; omega
    have hjl : j < l.length := by rw [List.length_take] at hj; omega
    have hn := List.not_of_lt_findIdx hj'
    rw [List.getElem_take]
    unfold gtId at hn
    have hns' := hns _ (List.getElem_mem hjl)
    cases hs : strLess l[j].id p.id
    · rw [hs] at hn
      have : (l[j].id.toList == p.id.toList) = false := by simpa using hns'
      rw [this] at hn
      simp at hn
    · rfl
  have hgt : ∀ y ∈ l.drop (l.findIdx (gtId p.id)), strLess p.id y.id = true := fun y hy => by
    obtain ⟨j, hj, rfl⟩ := List.getElem_of_mem hy
    have hjl : l.findIdx (gtId p.id) + j < l.length := by rw [List.length_drop] at hj; omega
    rw [List.getElem_drop]
    have hfl : l.findIdx (gtId p.id) < l.length := by omega
    have hf : strLess p.id l[l.findIdx (gtId p.id)].id = true := by
      have := List.findIdx_getElem (w := hfl)
      unfold gtId at this
      have this : (strLess l[l.findIdx (gtId p.id)].id p.id || l[l.findIdx (gtId p.id)].id.toList == p.id.toList) = false := by
        have h9 : (!(strLess l[l.findIdx (gtId p.id)].id p.id || l[l.findIdx (gtId p.id)].id.toList == p.id.toList)) = true := List.findIdx_getElem (w := hfl)
        simpa using h9
      exact leS_no this
    by_cases hj0 : j = 0
    · subst hj0; exact hf
    · exact strLess_trans hf (List.pairwise_iff_getElem.1 h.asc _ _ hfl hjl (by omega))
  refine ⟨⟨?_, fun q hq => ?_, ?_⟩, ?_, fun k t => ?_, ?_⟩
  · unfold insP
    refine List.pairwise_append.2 ⟨h.asc.sublist (List.take_sublist _ _), List.pairwise_cons.2 ⟨fun y hy => hgt y hy, h.asc.sublist (List.drop_sublist _ _)⟩, fun x hx y hy => ?_⟩
    rcases List.mem_cons.1 hy with rfl | hy
    · exact hlt x hx
    · exact strLess_trans (hlt x hx) (hgt y hy)
  · unfold insP at hq
    rcases List.mem_append.1 hq with hq | hq
    · exact h.sp q (List.mem_of_mem_take hq)
    · rcases List.mem_cons.1 hq with rfl | hq
      · exact hab
      · exact h.sp q (List.mem_of_mem_drop hq)
  · unfold insP
    have := List.findIdx_le_length (xs := l) (p := gtId p.id)
    simp
    omega
  · unfold insP
    have := List.findIdx_le_length (xs := l) (p := gtId p.id)
    simp
    omega
  · unfold validB insP
    rw [List.any_append, List.any_cons]
    have e2 : l.any (hasP k t) = ((l.take (l.findIdx (gtId p.id))).any (hasP k t) || (l.drop (l.findIdx (gtId p.id))).any (hasP k t)) := by
      rw [← List.any_append, List.take_append_drop]
    rw [e2]
    cases hasP k t p <;> cases (l.take (l.findIdx (gtId p.id))).any (hasP k t) <;> simp
  · unfold insP
    have z1 : (l.take (l.findIdx (gtId p.id))).countP (eqP p) = 0 := by
      rw [List.countP_eq_zero]
      intro q hq hk
      unfold eqP at hk
      rw [Bool.and_eq_true, beq_iff_eq] at hk
      exact hns q (List.mem_of_mem_take hq) hk.1
    have z2 : (l.drop (l.findIdx (gtId p.id))).countP (eqP p) = 0 := by
      rw [List.countP_eq_zero]
      intro q hq hk
      unfold eqP at hk
      rw [Bool.and_eq_true, beq_iff_eq] at hk
      exact hns q (List.mem_of_mem_drop hq) hk.1
    rw [List.countP_append, List.countP_cons, z1, z2]
    simp [eqP]
def growS (A : List Pt) (now k t : Int) (i : Nat) (L m : List Pt) (p : Pt) (j : Nat) : AState := mkS [(0, .sl (pts A)), (1, .v (.int .i64 now)), (5, .bp 0 0), (7, .sl (pts L)), (8, .v (.int .i64 i)), (9, .bp 1 0), (10, .sl (pts m)), (13, .v (.int .i64 (((m.take j).countP (eqP p) : Nat) : Int))), (14, .v (.int .i64 j))] [(0, .box [.v (.int .i64 k), .v (.int .i64 t)]), (1, .box p.cells)]
theorem cnt_step (m : List Pt) (p : Pt) (j : Nat) (h : j < m.length) : (m.take (j + 1)).countP (eqP p) = (m.take j).countP (eqP p) + (if eqP p (m.getD j zeroPt) = true then 1 else 0) := by
  rw [take_snoc m zeroPt j h, List.countP_append]
  simp [List.countP_cons]
theorem str_order {a b : ByteArray} (h : strLess a b = true) : strLess b a = false ∧ (b.toList == a.toList) = false := by
  constructor
  · cases hs : strLess b a
    · rfl
    · have := strLess_trans h hs
      rw [strLess_irrefl] at this
      cases this
  · cases he : (b.toList == a.toList)
    · rfl
    · rw [beq_iff_eq] at he
      rw [strLess_iff, he] at h
      exact absurd h (List.lt_irrefl _)
theorem grow_in (A : List Pt) (now k t : Int) (i : Nat) (L m : List Pt) (p : Pt) (hG : GoodPl m) {Q : AExit → Nat → AState → Prop}
    (hQ : ∀ nx S, Ghost 0 nx S 80 (growS A now k t i L m p m.length) → Q (.exit 2) nx S) : Awp Tryz.prog 145 0 (Tryz.ac6.sub [1, 1, 1, 0, 1, 0, 0, 1, 0, 0, 1, 1, 1, 1, 1, 1, 0, 1, 0]) 80 (growS A now k t i L m p 0) Q := by
  refine Awp.loop (fun j : Nat => j ≤ m.length) 80 (fun j => growS A now k t i L m p j) (fun j => m.length - j) 0 (by omega) (Ghost.refl _ _ _) ?_
  intro j hj
  have hl := hG.len
  by_cases hlt : j < m.length
  · have hlt' : (j : Int) < m.length := by omega
    have hat := pts_at m j hlt
    have hz : ((m.getD j zeroPt).cells).length = 4 := rfl
    have hc := cnt_step m p j hlt
    have hcl : (m.take j).countP (eqP p) ≤ 64 := Nat.le_trans (List.countP_le_length) (by rw [List.length_take]; omega)
    have hjw : IntKind.i64.wrap ((j : Int) + 1) = ((j + 1 : Nat) : Int) := by rw [wrap_i64 (by omega) (by omega)]; omega
    have hcw : IntKind.i64.wrap ((((m.take j).countP (eqP p) : Nat) : Int) + 1) = (((m.take j).countP (eqP p) + 1 : Nat) : Int) := by rw [wrap_i64 (by omega) (by omega)]; omega
    have hsp : (m.getD j zeroPt).a < (m.getD j zeroPt).b := hG.sp _ (by rw [getD_get _ zeroPt j hlt]; exact List.getElem_mem _)
    have hsp' : ¬ (m.getD j zeroPt).b ≤ (m.getD j zeroPt).a := by omega
    have hq : eqP p (m.getD j zeroPt) = (((m.getD j zeroPt).id.toList == p.id.toList) && (((m.getD j zeroPt).k == p.k) && (((m.getD j zeroPt).a == p.a) && ((m.getD j zeroPt).b == p.b)))) := rfl
    have ho : 0 < j → strLess (m.getD (j - 1) zeroPt).id (m.getD j zeroPt).id = true := fun h0 => by
      rw [getD_get _ zeroPt j hlt, getD_get _ zeroPt (j - 1) (by omega)]
      exact List.pairwise_iff_getElem.1 hG.asc _ _ (by omega) hlt (by omega)
    clear hG
    replace hc : Hid ((m.take (j + 1)).countP (eqP p) = (m.take j).countP (eqP p) + (if eqP p (m.getD j zeroPt) = true then 1 else 0)) := hc
    unfold growS at *
    clear hQ
    by_cases h0 : 0 < j
    · have hp : decide ((0 : Int) < (j : Int)) = true := decide_eq_true (by omega)
      have hw := pred_wrap h0 (by omega)
      have hatp := pts_at m (j - 1) (by omega)
      have hzp : ((m.getD (j - 1) zeroPt).cells).length = 4 := rfl
      have hlp : ((j - 1 : Nat) : Int) < m.length := by omega
      have hp0 : (0 : Int) ≤ ((j - 1 : Nat) : Int) := by omega
      obtain ⟨o1, o2⟩ := str_order (ho h0)
      clear ho
      generalize m.getD (j - 1) zeroPt = r at *
      generalize m.getD j zeroPt = q at *
      obtain ⟨b, hb⟩ : ∃ b, eqP p q = b := ⟨_, rfl⟩
      rw [hb] at hc hq
      replace hq := hq.symm
      have x1 : (false ^^ false) = false := rfl
      have x2 : (false ^^ true) = true := rfl
      cases b
      · replace hc : Hid ((m.take (j + 1)).countP (eqP p) = (m.take j).countP (eqP p)) := hc
        generalize (m.take j).countP (eqP p) = C at *
        clear hb
        repeat' (first
    | (apply Awp.sreg; (case hn => (simp only [List.length_cons, List.length_nil, Nat.reduceAdd] <;> rfl)))
    | (apply Awp.sdraw; (case hn => (simp only [List.length_cons, List.length_nil, Nat.reduceAdd] <;> rfl)))
    | (refine st_nil ?_)
    | (apply st_a; (case hc => rfl); (case he => (simp only [go_sem, *] <;> rfl)); (case hu => (simp only [updL_nil, updL_cons] <;> rfl)); (case hp => first | trivial))
    | (apply Awp.reg; (case hn => (simp only [List.length_cons, List.length_nil, Nat.reduceAdd] <;> rfl)))
    | (refine Awp.skip ?_; try simp only [go_sem, *])
    | refine Awp.block ?_
    | (apply Awp.cond; (case hc => (simp only [go_sem, *] <;> rfl)); all_goals (intro hg; (try simp only [Bool.not_true, Bool.not_false, reduceCtorEq] at hg)))
    | refine Awp.seq ?_
    | (apply sl_a; (case hc => rfl); (case he => (simp only [go_sem, *] <;> rfl)); (case hu => (simp only [updL_nil, updL_cons] <;> rfl)); (case hl => (simp only [List.map_cons, List.map_nil] <;> rfl)); (case hp => first | trivial | omega))
    | (apply sl_ga; (case hb => rfl); (case hv => (simp only [go_sem, *] <;> rfl)); (case he => (simp only [go_sem, *] <;> rfl)); (case hu => (simp only [updL_nil, updL_cons] <;> rfl)); (case hl => (simp only [List.map_cons, List.map_nil] <;> rfl)); (case hp => first | trivial | omega))
    | (refine sl_nil (And.intro (by first | exact drawOk_of (by decide +kernel) | (simp only [List.map_cons, List.map_nil]; exact drawOk_of (by decide +kernel)) | decide) ?_)))
        all_goals (refine ⟨j + 1, by omega, by omega, ?_⟩; rw [show (m.take (j + 1)).countP (eqP p) = C from hc]; clear hc; (apply Ghost.mk [(0, 0), (1, 1)] []; (case hdead => rfl); (case hinj => rfl); (case hV => (simp only [go_sem, *]) <;> (repeat' (first | refine And.intro ?_ ?_ | exact .bp rfl (by decide)))); (case hB => (simp only [go_sem, *]) <;> (repeat' (first | refine And.intro ?_ ?_ | exact ⟨_, rfl, BView.boxF rfl⟩)))))
      · replace hc : Hid ((m.take (j + 1)).countP (eqP p) = (m.take j).countP (eqP p) + 1) := hc
        generalize (m.take j).countP (eqP p) = C at *
        clear hb
        repeat' (first
    | (apply Awp.sreg; (case hn => (simp only [List.length_cons, List.length_nil, Nat.reduceAdd] <;> rfl)))
    | (apply Awp.sdraw; (case hn => (simp only [List.length_cons, List.length_nil, Nat.reduceAdd] <;> rfl)))
    | (refine st_nil ?_)
    | (apply st_a; (case hc => rfl); (case he => (simp only [go_sem, *] <;> rfl)); (case hu => (simp only [updL_nil, updL_cons] <;> rfl)); (case hp => first | trivial))
    | (apply Awp.reg; (case hn => (simp only [List.length_cons, List.length_nil, Nat.reduceAdd] <;> rfl)))
    | (refine Awp.skip ?_; try simp only [go_sem, *])
    | refine Awp.block ?_
    | (apply Awp.cond; (case hc => (simp only [go_sem, *] <;> rfl)); all_goals (intro hg; (try simp only [Bool.not_true, Bool.not_false, reduceCtorEq] at hg)))
    | refine Awp.seq ?_
    | (apply sl_a; (case hc => rfl); (case he => (simp only [go_sem, *] <;> rfl)); (case hu => (simp only [updL_nil, updL_cons] <;> rfl)); (case hl => (simp only [List.map_cons, List.map_nil] <;> rfl)); (case hp => first | trivial | omega))
    | (apply sl_ga; (case hb => rfl); (case hv => (simp only [go_sem, *] <;> rfl)); (case he => (simp only [go_sem, *] <;> rfl)); (case hu => (simp only [updL_nil, updL_cons] <;> rfl)); (case hl => (simp only [List.map_cons, List.map_nil] <;> rfl)); (case hp => first | trivial | omega))
    | (refine sl_nil (And.intro (by first | exact drawOk_of (by decide +kernel) | (simp only [List.map_cons, List.map_nil]; exact drawOk_of (by decide +kernel)) | decide) ?_)))
        all_goals (refine ⟨j + 1, by omega, by omega, ?_⟩; rw [show (m.take (j + 1)).countP (eqP p) = C + 1 from hc]; clear hc; (apply Ghost.mk [(0, 0), (1, 1)] []; (case hdead => rfl); (case hinj => rfl); (case hV => (simp only [go_sem, *]) <;> (repeat' (first | refine And.intro ?_ ?_ | exact .bp rfl (by decide)))); (case hB => (simp only [go_sem, *]) <;> (repeat' (first | refine And.intro ?_ ?_ | exact ⟨_, rfl, BView.boxF rfl⟩)))))
    · have hp : decide ((0 : Int) < (j : Int)) = false := decide_eq_false (by omega)
      clear ho
      generalize m.getD j zeroPt = q at *
      obtain ⟨b, hb⟩ : ∃ b, eqP p q = b := ⟨_, rfl⟩
      rw [hb] at hc hq
      replace hq := hq.symm
      have x1 : (false ^^ false) = false := rfl
      have x2 : (false ^^ true) = true := rfl
      cases b
      · replace hc : Hid ((m.take (j + 1)).countP (eqP p) = (m.take j).countP (eqP p)) := hc
        generalize (m.take j).countP (eqP p) = C at *
        clear hb
        repeat' (first
    | (apply Awp.sreg; (case hn => (simp only [List.length_cons, List.length_nil, Nat.reduceAdd] <;> rfl)))
    | (apply Awp.sdraw; (case hn => (simp only [List.length_cons, List.length_nil, Nat.reduceAdd] <;> rfl)))
    | (refine st_nil ?_)
    | (apply st_a; (case hc => rfl); (case he => (simp only [go_sem, *] <;> rfl)); (case hu => (simp only [updL_nil, updL_cons] <;> rfl)); (case hp => first | trivial))
    | (apply Awp.reg; (case hn => (simp only [List.length_cons, List.length_nil, Nat.reduceAdd] <;> rfl)))
    | (refine Awp.skip ?_; try simp only [go_sem, *])
    | refine Awp.block ?_
    | (apply Awp.cond; (case hc => (simp only [go_sem, *] <;> rfl)); all_goals (intro hg; (try simp only [Bool.not_true, Bool.not_false, reduceCtorEq] at hg)))
    | refine Awp.seq ?_
    | (apply sl_a; (case hc => rfl); (case he => (simp only [go_sem, *] <;> rfl)); (case hu => (simp only [updL_nil, updL_cons] <;> rfl)); (case hl => (simp only [List.map_cons, List.map_nil] <;> rfl)); (case hp => first | trivial | omega))
    | (apply sl_gn; (case hv => (simp only [go_sem, *] <;> rfl)); (case hbw => rfl))
    | (apply sl_ga; (case hb => rfl); (case hv => (simp only [go_sem, *] <;> rfl)); (case he => (simp only [go_sem, *] <;> rfl)); (case hu => (simp only [updL_nil, updL_cons] <;> rfl)); (case hl => (simp only [List.map_cons, List.map_nil] <;> rfl)); (case hp => first | trivial | omega))
    | (refine sl_nil (And.intro (by first | exact drawOk_of (by decide +kernel) | (simp only [List.map_cons, List.map_nil]; exact drawOk_of (by decide +kernel)) | decide) ?_)))
        all_goals (refine ⟨j + 1, by omega, by omega, ?_⟩; rw [show (m.take (j + 1)).countP (eqP p) = C from hc]; clear hc; (apply Ghost.mk [(0, 0), (1, 1)] []; (case hdead => rfl); (case hinj => rfl); (case hV => (simp only [go_sem, *]) <;> (repeat' (first | refine And.intro ?_ ?_ | exact .bp rfl (by decide)))); (case hB => (simp only [go_sem, *]) <;> (repeat' (first | refine And.intro ?_ ?_ | exact ⟨_, rfl, BView.boxF rfl⟩)))))
      · replace hc : Hid ((m.take (j + 1)).countP (eqP p) = (m.take j).countP (eqP p) + 1) := hc
        generalize (m.take j).countP (eqP p) = C at *
        clear hb
        repeat' (first
    | (apply Awp.sreg; (case hn => (simp only [List.length_cons, List.length_nil, Nat.reduceAdd] <;> rfl)))
    | (apply Awp.sdraw; (case hn => (simp only [List.length_cons, List.length_nil, Nat.reduceAdd] <;> rfl)))
    | (refine st_nil ?_)
    | (apply st_a; (case hc => rfl); (case he => (simp only [go_sem, *] <;> rfl)); (case hu => (simp only [updL_nil, updL_cons] <;> rfl)); (case hp => first | trivial))
    | (apply Awp.reg; (case hn => (simp only [List.length_cons, List.length_nil, Nat.reduceAdd] <;> rfl)))
    | (refine Awp.skip ?_; try simp only [go_sem, *])
    | refine Awp.block ?_
    | (apply Awp.cond; (case hc => (simp only [go_sem, *] <;> rfl)); all_goals (intro hg; (try simp only [Bool.not_true, Bool.not_false, reduceCtorEq] at hg)))
    | refine Awp.seq ?_
    | (apply sl_a; (case hc => rfl); (case he => (simp only [go_sem, *] <;> rfl)); (case hu => (simp only [updL_nil, updL_cons] <;> rfl)); (case hl => (simp only [List.map_cons, List.map_nil] <;> rfl)); (case hp => first | trivial | omega))
    | (apply sl_gn; (case hv => (simp only [go_sem, *] <;> rfl)); (case hbw => rfl))
    | (apply sl_ga; (case hb => rfl); (case hv => (simp only [go_sem, *] <;> rfl)); (case he => (simp only [go_sem, *] <;> rfl)); (case hu => (simp only [updL_nil, updL_cons] <;> rfl)); (case hl => (simp only [List.map_cons, List.map_nil] <;> rfl)); (case hp => first | trivial | omega))
    | (refine sl_nil (And.intro (by first | exact drawOk_of (by decide +kernel) | (simp only [List.map_cons, List.map_nil]; exact drawOk_of (by decide +kernel)) | decide) ?_)))
        all_goals (refine ⟨j + 1, by omega, by omega, ?_⟩; rw [show (m.take (j + 1)).countP (eqP p) = C + 1 from hc]; clear hc; (apply Ghost.mk [(0, 0), (1, 1)] []; (case hdead => rfl); (case hinj => rfl); (case hV => (simp only [go_sem, *]) <;> (repeat' (first | refine And.intro ?_ ?_ | exact .bp rfl (by decide)))); (case hB => (simp only [go_sem, *]) <;> (repeat' (first | refine And.intro ?_ ?_ | exact ⟨_, rfl, BView.boxF rfl⟩)))))
  · have hlt' : ¬ (j : Int) < m.length := by omega
    have hje : Hid (j = m.length) := show j = m.length by omega
    clear hG
    unfold growS at *
    repeat' (first
    | (apply Awp.sreg; (case hn => (simp only [List.length_cons, List.length_nil, Nat.reduceAdd] <;> rfl)))
    | (refine st_nil ?_)
    | (apply st_a; (case hc => rfl); (case he => (simp only [go_sem, *] <;> rfl)); (case hu => (simp only [updL_nil, updL_cons] <;> rfl)); (case hp => first | trivial))
    | (refine Awp.exit ?_; try simp only [go_sem, *])
    | (apply Awp.cond; (case hc => (simp only [go_sem, *] <;> rfl)); all_goals (intro hg; (try simp only [Bool.not_true, Bool.not_false, reduceCtorEq] at hg)))
    | refine Awp.seq ?_)
    all_goals (try simp only [loopQ])
    all_goals (refine hQ _ _ ?_; rw [← (show j = m.length from hje)]; clear hQ; (apply Ghost.mk [(0, 0), (1, 1)] []; (case hdead => rfl); (case hinj => rfl); (case hV => (simp only [go_sem, *]) <;> (repeat' (first | refine And.intro ?_ ?_ | exact .bp rfl (by decide)))); (case hB => (simp only [go_sem, *]) <;> (repeat' (first | refine And.intro ?_ ?_ | exact ⟨_, rfl, BView.boxF rfl⟩)))))
theorem grows_ok (A : List Pt) (now k t : Int) : Pure Tryz.prog 6 [.sl (pts A), .v (.int .i64 now), .agg [.v (.int .i64 k), .v (.int .i64 t)]] (.v (.bool true)) := by
  have c0 := short_ok A
  by_cases h80 : 80 < A.length
  · have h80' : (80 : Int) < A.length := by omega
    refine fn_pure Tryz.F6 (Nat.le_of_ble_eq_true rfl) ?_; unfold Tryz.ac6
    repeat' (first
    | (apply Awp.sreg; (case hn => (simp only [List.length_cons, List.length_nil, Nat.reduceAdd] <;> rfl)))
    | (refine st_nil ?_)
    | (apply st_a; (case hc => rfl); (case he => (simp only [go_sem, *] <;> rfl)); (case hu => (simp only [updL_nil, updL_cons] <;> rfl)); (case hp => first | trivial))
    | (apply st_m; (case hc => rfl); (case hg => (simp only [go_sem, *] <;> rfl)); (case he => (intro hQz; (try simp only [wantB_t, wantB_f, Bool.and_eq_true, Bool.not_eq_true', Bool.not_true, Bool.not_false, and_true, true_and] at hQz); simp only [go_sem, *] <;> rfl)); (case hp => (intro hQz; (try simp only [wantB_t, wantB_f, Bool.and_eq_true, Bool.not_eq_true', Bool.or_eq_false_iff, decide_eq_true_eq, decide_eq_false_iff_not, beq_iff_eq, beq_eq_false_iff_ne, bne_iff_ne, bne_eq_false_iff_eq, Int.not_lt, Int.not_le, Int.ofNat_lt, Int.ofNat_le] at hQz); first | trivial)))
    | (apply st_mc; (case hop => rfl); (case hg => (simp only [go_sem, *] <;> rfl)); (case hc => (intro hQz; (try simp only [wantB_t, wantB_f, Bool.and_eq_true, Bool.not_eq_true', Bool.not_true, Bool.not_false, and_true, true_and] at hQz); simp only [go_sem, *] <;> rfl)); (case hl => (intro hQz; (try simp only [wantB_t, wantB_f, Bool.and_eq_true, Bool.not_eq_true', Bool.not_true, Bool.not_false, and_true, true_and] at hQz); simp only [go_sem, *] <;> rfl)); (case hn => (intro hQz; (try simp only [wantB_t, wantB_f, Bool.and_eq_true, Bool.not_eq_true', Bool.not_true, Bool.not_false, and_true, true_and] at hQz); simp only [go_sem, *] <;> rfl)); (case hp => intro hQz; first | exact c0 | (have hXz := c0; simp only [go_sem, *] at hXz; exact hXz)))
    | (apply st_c; (case hc => (simp only [go_sem, *] <;> rfl)); (case hl => (simp only [go_sem, *] <;> rfl)); (case hn => (simp only [go_sem, *] <;> rfl)); (case hp => first | exact awake_ok | (have hXz := awake_ok; simp only [go_sem, *] at hXz; exact hXz)))
    | (refine Awp.ret ?_; try simp only [go_sem, *])
    | (apply Awp.cond; (case hc => (simp only [go_sem, *] <;> rfl)); all_goals (intro hg; (try simp only [Bool.not_true, Bool.not_false, reduceCtorEq] at hg)))
    | refine Awp.seq ?_)
    all_goals repeat' (first | exact Lower.bool (by first | rfl | (simp only [true_and, Bool.true_and, Bool.false_and, Bool.and_true, Bool.and_false, Bool.true_or, Bool.false_or, reduceIte, Bool.false_eq_true, *]; done) | (simp only [true_and, reduceIte, Bool.false_eq_true, *] <;> rfl) | (simp [true_and]; done) | (simp_all [true_and]; done) | omega))
  have h80' : ¬ (80 : Int) < A.length := by omega
  cases h1 : shortB A
  · rw [h1] at c0
    refine fn_pure Tryz.F6 (Nat.le_of_ble_eq_true rfl) ?_; unfold Tryz.ac6
    repeat' (first
    | (apply Awp.sreg; (case hn => (simp only [List.length_cons, List.length_nil, Nat.reduceAdd] <;> rfl)))
    | (refine st_nil ?_)
    | (apply st_a; (case hc => rfl); (case he => (simp only [go_sem, *] <;> rfl)); (case hu => (simp only [updL_nil, updL_cons] <;> rfl)); (case hp => first | trivial))
    | (apply st_m; (case hc => rfl); (case hg => (simp only [go_sem, *] <;> rfl)); (case he => (intro hQz; (try simp only [wantB_t, wantB_f, Bool.and_eq_true, Bool.not_eq_true', Bool.not_true, Bool.not_false, and_true, true_and] at hQz); simp only [go_sem, *] <;> rfl)); (case hp => (intro hQz; (try simp only [wantB_t, wantB_f, Bool.and_eq_true, Bool.not_eq_true', Bool.or_eq_false_iff, decide_eq_true_eq, decide_eq_false_iff_not, beq_iff_eq, beq_eq_false_iff_ne, bne_iff_ne, bne_eq_false_iff_eq, Int.not_lt, Int.not_le, Int.ofNat_lt, Int.ofNat_le] at hQz); first | trivial)))
    | (apply st_mc; (case hop => rfl); (case hg => (simp only [go_sem, *] <;> rfl)); (case hc => (intro hQz; (try simp only [wantB_t, wantB_f, Bool.and_eq_true, Bool.not_eq_true', Bool.not_true, Bool.not_false, and_true, true_and] at hQz); simp only [go_sem, *] <;> rfl)); (case hl => (intro hQz; (try simp only [wantB_t, wantB_f, Bool.and_eq_true, Bool.not_eq_true', Bool.not_true, Bool.not_false, and_true, true_and] at hQz); simp only [go_sem, *] <;> rfl)); (case hn => (intro hQz; (try simp only [wantB_t, wantB_f, Bool.and_eq_true, Bool.not_eq_true', Bool.not_true, Bool.not_false, and_true, true_and] at hQz); simp only [go_sem, *] <;> rfl)); (case hp => intro hQz; first | exact c0 | (have hXz := c0; simp only [go_sem, *] at hXz; exact hXz)))
    | (apply st_c; (case hc => (simp only [go_sem, *] <;> rfl)); (case hl => (simp only [go_sem, *] <;> rfl)); (case hn => (simp only [go_sem, *] <;> rfl)); (case hp => first | exact awake_ok | (have hXz := awake_ok; simp only [go_sem, *] at hXz; exact hXz)))
    | (refine Awp.ret ?_; try simp only [go_sem, *])
    | (apply Awp.cond; (case hc => (simp only [go_sem, *] <;> rfl)); all_goals (intro hg; (try simp only [Bool.not_true, Bool.not_false, reduceCtorEq] at hg)))
    | refine Awp.seq ?_)
    all_goals repeat' (first | exact Lower.bool (by first | rfl | (simp only [true_and, Bool.true_and, Bool.false_and, Bool.and_true, Bool.and_false, Bool.true_or, Bool.false_or, reduceIte, Bool.false_eq_true, *]; done) | (simp only [true_and, reduceIte, Bool.false_eq_true, *] <;> rfl) | (simp [true_and]; done) | (simp_all [true_and]; done) | omega))
  rw [h1] at c0
  clear h1
  refine fn_pure Tryz.F6 (Nat.le_of_ble_eq_true rfl) ?_; unfold Tryz.ac6
  repeat' (first
    | (apply Awp.sreg; (case hn => (simp only [List.length_cons, List.length_nil, Nat.reduceAdd] <;> rfl)))
    | (refine st_nil ?_)
    | (apply st_a; (case hc => rfl); (case he => (simp only [go_sem, *] <;> rfl)); (case hu => (simp only [updL_nil, updL_cons] <;> rfl)); (case hp => first | trivial))
    | (apply st_m; (case hc => rfl); (case hg => (simp only [go_sem, *] <;> rfl)); (case he => (intro hQz; (try simp only [wantB_t, wantB_f, Bool.and_eq_true, Bool.not_eq_true', Bool.not_true, Bool.not_false, and_true, true_and] at hQz); simp only [go_sem, *] <;> rfl)); (case hp => (intro hQz; (try simp only [wantB_t, wantB_f, Bool.and_eq_true, Bool.not_eq_true', Bool.or_eq_false_iff, decide_eq_true_eq, decide_eq_false_iff_not, beq_iff_eq, beq_eq_false_iff_ne, bne_iff_ne, bne_eq_false_iff_eq, Int.not_lt, Int.not_le, Int.ofNat_lt, Int.ofNat_le] at hQz); first | trivial)))
    | (apply st_mc; (case hop => rfl); (case hg => (simp only [go_sem, *] <;> rfl)); (case hc => (intro hQz; (try simp only [wantB_t, wantB_f, Bool.and_eq_true, Bool.not_eq_true', Bool.not_true, Bool.not_false, and_true, true_and] at hQz); simp only [go_sem, *] <;> rfl)); (case hl => (intro hQz; (try simp only [wantB_t, wantB_f, Bool.and_eq_true, Bool.not_eq_true', Bool.not_true, Bool.not_false, and_true, true_and] at hQz); simp only [go_sem, *] <;> rfl)); (case hn => (intro hQz; (try simp only [wantB_t, wantB_f, Bool.and_eq_true, Bool.not_eq_true', Bool.not_true, Bool.not_false, and_true, true_and] at hQz); simp only [go_sem, *] <;> rfl)); (case hp => intro hQz; first | exact c0 | (have hXz := c0; simp only [go_sem, *] at hXz; exact hXz)))
    | (refine Awp.skip ?_; try simp only [go_sem, *])
    | refine Awp.block ?_
    | (apply Awp.cond; (case hc => (simp only [go_sem, *] <;> rfl)); all_goals (intro hg; (try simp only [Bool.not_true, Bool.not_false, reduceCtorEq] at hg)))
    | refine Awp.seq ?_)
  clear c0
  refine Awp.loop (fun x : Nat × List Pt => x.1 ≤ A.length ∧ GoodPl x.2) 60 (fun x => mkS [(0, .sl (pts A)), (1, .v (.int .i64 now)), (5, .bp 0 0), (7, .sl (pts x.2)), (8, .v (.int .i64 x.1))] [(0, .box [.v (.int .i64 k), .v (.int .i64 t)])]) (fun x => A.length - x.1) (0, []) ⟨by omega, ⟨.nil, by simp, by simp⟩⟩ ?_ ?_
  · have e0 : pts [] = [] := rfl
    dsimp only
    rw [e0]
    (apply Ghost.mk [(0, 0)] []; (case hdead => rfl); (case hinj => rfl); (case hV => (simp only [go_sem, *]) <;> (repeat' (first | refine And.intro ?_ ?_ | exact View.int (by first | rfl | omega | (simp; done) | (rw [wrap_i64] <;> (try simp only [Int.natCast_add]) <;> omega) | (simp [*]; done)) | exact .bp rfl (by decide) | exact View.low .nil0))); (case hB => (simp only [go_sem, *]) <;> (repeat' (first | exact ⟨_, rfl, BView.boxF rfl⟩))))
  · intro ⟨i, L⟩ ⟨hi, hG⟩
    dsimp only at hi hG ⊢
    by_cases hlt : i < A.length
    · have hlt' : (i : Int) < A.length := by omega
      have hat := pts_at A i hlt
      have hz : ((A.getD i zeroPt).cells).length = 4 := rfl
      have hLl := hG.len
      have c1 := add_ok L (A.getD i zeroPt) now (by omega)
      by_cases hE : (addE L (A.getD i zeroPt) now).2 = 0
      · obtain ⟨g1, g2, g3, g4⟩ := grow_step hG hE
        have c2 := valid_ok (addE L (A.getD i zeroPt) now).1 k t (by omega)
        have c3 := valid_ok L k t (by omega)
        rw [g3 k t] at c2
        rw [hE] at c1
        clear g3 hE hG
        generalize A.getD i zeroPt = p at *
        generalize (addE L p now).1 = m at *
        generalize validB L k t = V at *
        have hm64 := g1.len
        have hm64' : ¬ (64 : Int) < m.length := by omega
        have hmw : IntKind.i64.wrap ((L.length : Int) + 1) = (m.length : Int) := by rw [wrap_i64 (by omega) (by omega)]; omega
        have hmn : ((m.length : Int) != (m.length : Int)) = false := by simp
        have hV : (true ^^ (V == V)) = false := by simp
        have hV2 : (true ^^ (true == (k == k || V))) = false := by simp
        have hx : hasP k t p = ((p.k == k) && decide (p.a ≤ t) && decide (t < p.b)) := rfl
        have h80n : A.length ≤ 80 := by omega
        have g1' : Hid (GoodPl m) := g1
        clear g1 g2 h80 hLl
        have hc1 : (((m.take m.length).countP (eqP p) : Nat) : Int) = 1 := by rw [List.take_length, g4]; rfl
        clear g4
        by_cases hk : p.k = k
        · have hbb : (p.k == k) = true := by simpa using hk
          by_cases ha : p.a ≤ t
          · have haa : decide (p.a ≤ t) = true := decide_eq_true ha
            by_cases hb : t < p.b
            · have hb' : decide (t < p.b) = true := decide_eq_true hb
              rw [hbb, haa, hb'] at hx
              rw [hx] at c2
              clear hx
              repeat' (first
    | (apply Awp.sreg; (case hn => (simp only [List.length_cons, List.length_nil, Nat.reduceAdd] <;> rfl)))
    | (refine st_nil ?_)
    | (apply st_a; (case hc => rfl); (case he => (simp only [go_sem, *] <;> rfl)); (case hu => (simp only [updL_nil, updL_cons] <;> rfl)); (case hp => first | trivial | omega))
    | (apply st_m; (case hc => rfl); (case hg => (simp only [go_sem, *] <;> rfl)); (case he => (intro hQz; (try simp only [wantB_t, wantB_f, Bool.and_eq_true, Bool.not_eq_true', Bool.not_true, Bool.not_false, and_true, true_and] at hQz); simp only [go_sem, *] <;> rfl)); (case hp => (intro hQz; (try simp only [wantB_t, wantB_f, Bool.and_eq_true, Bool.not_eq_true', Bool.or_eq_false_iff, decide_eq_true_eq, decide_eq_false_iff_not, beq_iff_eq, beq_eq_false_iff_ne, bne_iff_ne, bne_eq_false_iff_eq, Int.not_lt, Int.not_le, Int.ofNat_lt, Int.ofNat_le] at hQz); first | trivial)))
    | (apply st_c; (case hc => (simp only [go_sem, *] <;> rfl)); (case hl => (simp only [go_sem, *] <;> rfl)); (case hn => (simp only [go_sem, *] <;> rfl)); (case hp => first | exact c1 | (have hXz := c1; simp only [go_sem, *] at hXz; exact hXz)))
    | (apply st_mc; (case hop => rfl); (case hg => (simp only [go_sem, *] <;> rfl)); (case hc => (intro hQz; (try simp only [wantB_t, wantB_f, Bool.and_eq_true, Bool.not_eq_true', Bool.not_true, Bool.not_false, and_true, true_and] at hQz); simp only [go_sem, *] <;> rfl)); (case hl => (intro hQz; (try simp only [wantB_t, wantB_f, Bool.and_eq_true, Bool.not_eq_true', Bool.not_true, Bool.not_false, and_true, true_and] at hQz); simp only [go_sem, *] <;> rfl)); (case hn => (intro hQz; (try simp only [wantB_t, wantB_f, Bool.and_eq_true, Bool.not_eq_true', Bool.not_true, Bool.not_false, and_true, true_and] at hQz); simp only [go_sem, *] <;> rfl)); (case hp => intro hQz; first | exact c2 | (have hXz := c2; simp only [go_sem, *] at hXz; exact hXz)))
    | (apply st_mc; (case hop => rfl); (case hg => (simp only [go_sem, *] <;> rfl)); (case hc => (intro hQz; (try simp only [wantB_t, wantB_f, Bool.and_eq_true, Bool.not_eq_true', Bool.not_true, Bool.not_false, and_true, true_and] at hQz); simp only [go_sem, *] <;> rfl)); (case hl => (intro hQz; (try simp only [wantB_t, wantB_f, Bool.and_eq_true, Bool.not_eq_true', Bool.not_true, Bool.not_false, and_true, true_and] at hQz); simp only [go_sem, *] <;> rfl)); (case hn => (intro hQz; (try simp only [wantB_t, wantB_f, Bool.and_eq_true, Bool.not_eq_true', Bool.not_true, Bool.not_false, and_true, true_and] at hQz); simp only [go_sem, *] <;> rfl)); (case hp => intro hQz; first | exact c3 | (have hXz := c3; simp only [go_sem, *] at hXz; exact hXz)))
    | (refine Awp.skip ?_; try simp only [go_sem, *])
    | refine Awp.block ?_
    | (apply Awp.cond; (case hc => (simp only [go_sem, *] <;> rfl)); all_goals (intro hg; (try simp only [Bool.not_true, Bool.not_false, reduceCtorEq] at hg)))
    | refine Awp.seq ?_)
              all_goals first
                | (exact absurd (by assumption : ((((0 : Nat) : Int)) != 0) = true) (by decide))
                | skip
              all_goals (refine Awp.ghost (nx' := 80) (S' := growS A now k t i L m p 0) ?_ (grow_in A now k t i L m p g1' (fun nx S gg => ?_)))
              · unfold growS
                clear c1 c2 c3 g1' hc1
                have e0 : (((m.take 0).countP (eqP p) : Nat) : Int) = 0 := rfl
                (apply Ghost.mk [(0, 0), (1, 68)] []; (case hdead => rfl); (case hinj => rfl); (case hV => (simp only [go_sem, *]) <;> (repeat' (first | refine And.intro ?_ ?_ | exact View.int (by first | rfl | omega | (simp; done) | (rw [wrap_i64] <;> (try simp only [Int.natCast_add]) <;> omega) | (simp [*]; done)) | exact .bp rfl (by decide)))); (case hB => (simp only [go_sem, *]) <;> (repeat' (first | refine And.intro ?_ ?_ | exact ⟨_, rfl, BView.boxF rfl⟩))))
              · simp only [go_sem]
                refine Awp.ghost gg ?_
                unfold growS
                clear gg c1 c2 c3
                repeat' (first
    | (apply Awp.sreg; (case hn => (simp only [List.length_cons, List.length_nil, Nat.reduceAdd] <;> rfl)))
    | (refine st_nil ?_)
    | (apply st_a; (case hc => rfl); (case he => (simp only [go_sem, *] <;> rfl)); (case hu => (simp only [updL_nil, updL_cons] <;> rfl)); (case hp => first | trivial))
    | (apply Awp.reg; (case hn => (simp only [List.length_cons, List.length_nil, Nat.reduceAdd] <;> rfl)))
    | (refine Awp.skip ?_; try simp only [go_sem, *])
    | (apply Awp.cond; (case hc => (simp only [go_sem, *] <;> rfl)); all_goals (intro hg; (try simp only [Bool.not_true, Bool.not_false, reduceCtorEq] at hg)))
    | refine Awp.seq ?_)
                all_goals (refine ⟨(i + 1, m), ⟨by omega, g1'⟩, by show A.length - (i + 1) < A.length - i; omega, ?_⟩; clear g1'; dsimp only; (apply Ghost.mk [(0, 0)] []; (case hdead => rfl); (case hinj => rfl); (case hV => (simp only [go_sem, *]) <;> (repeat' (first | refine And.intro ?_ ?_ | exact View.int (by first | rfl | omega | (simp; done) | (rw [wrap_i64] <;> (try simp only [Int.natCast_add]) <;> omega) | (simp [*]; done)) | exact .bp rfl (by decide)))); (case hB => (simp only [go_sem, *]) <;> (repeat' (first | exact ⟨_, rfl, BView.boxF rfl⟩)))))
            · have hb' : decide (t < p.b) = false := decide_eq_false hb
              rw [hbb, haa, hb'] at hx
              rw [hx] at c2
              clear hx
              repeat' (first
    | (apply Awp.sreg; (case hn => (simp only [List.length_cons, List.length_nil, Nat.reduceAdd] <;> rfl)))
    | (refine st_nil ?_)
    | (apply st_a; (case hc => rfl); (case he => (simp only [go_sem, *] <;> rfl)); (case hu => (simp only [updL_nil, updL_cons] <;> rfl)); (case hp => first | trivial | omega))
    | (apply st_m; (case hc => rfl); (case hg => (simp only [go_sem, *] <;> rfl)); (case he => (intro hQz; (try simp only [wantB_t, wantB_f, Bool.and_eq_true, Bool.not_eq_true', Bool.not_true, Bool.not_false, and_true, true_and] at hQz); simp only [go_sem, *] <;> rfl)); (case hp => (intro hQz; (try simp only [wantB_t, wantB_f, Bool.and_eq_true, Bool.not_eq_true', Bool.or_eq_false_iff, decide_eq_true_eq, decide_eq_false_iff_not, beq_iff_eq, beq_eq_false_iff_ne, bne_iff_ne, bne_eq_false_iff_eq, Int.not_lt, Int.not_le, Int.ofNat_lt, Int.ofNat_le] at hQz); first | trivial)))
    | (apply st_c; (case hc => (simp only [go_sem, *] <;> rfl)); (case hl => (simp only [go_sem, *] <;> rfl)); (case hn => (simp only [go_sem, *] <;> rfl)); (case hp => first | exact c1 | (have hXz := c1; simp only [go_sem, *] at hXz; exact hXz)))
    | (apply st_mc; (case hop => rfl); (case hg => (simp only [go_sem, *] <;> rfl)); (case hc => (intro hQz; (try simp only [wantB_t, wantB_f, Bool.and_eq_true, Bool.not_eq_true', Bool.not_true, Bool.not_false, and_true, true_and] at hQz); simp only [go_sem, *] <;> rfl)); (case hl => (intro hQz; (try simp only [wantB_t, wantB_f, Bool.and_eq_true, Bool.not_eq_true', Bool.not_true, Bool.not_false, and_true, true_and] at hQz); simp only [go_sem, *] <;> rfl)); (case hn => (intro hQz; (try simp only [wantB_t, wantB_f, Bool.and_eq_true, Bool.not_eq_true', Bool.not_true, Bool.not_false, and_true, true_and] at hQz); simp only [go_sem, *] <;> rfl)); (case hp => intro hQz; first | exact c2 | (have hXz := c2; simp only [go_sem, *] at hXz; exact hXz)))
    | (apply st_mc; (case hop => rfl); (case hg => (simp only [go_sem, *] <;> rfl)); (case hc => (intro hQz; (try simp only [wantB_t, wantB_f, Bool.and_eq_true, Bool.not_eq_true', Bool.not_true, Bool.not_false, and_true, true_and] at hQz); simp only [go_sem, *] <;> rfl)); (case hl => (intro hQz; (try simp only [wantB_t, wantB_f, Bool.and_eq_true, Bool.not_eq_true', Bool.not_true, Bool.not_false, and_true, true_and] at hQz); simp only [go_sem, *] <;> rfl)); (case hn => (intro hQz; (try simp only [wantB_t, wantB_f, Bool.and_eq_true, Bool.not_eq_true', Bool.not_true, Bool.not_false, and_true, true_and] at hQz); simp only [go_sem, *] <;> rfl)); (case hp => intro hQz; first | exact c3 | (have hXz := c3; simp only [go_sem, *] at hXz; exact hXz)))
    | (refine Awp.skip ?_; try simp only [go_sem, *])
    | refine Awp.block ?_
    | (apply Awp.cond; (case hc => (simp only [go_sem, *] <;> rfl)); all_goals (intro hg; (try simp only [Bool.not_true, Bool.not_false, reduceCtorEq] at hg)))
    | refine Awp.seq ?_)
              all_goals first
                | (exact absurd (by assumption : ((((0 : Nat) : Int)) != 0) = true) (by decide))
                | skip
              all_goals (refine Awp.ghost (nx' := 80) (S' := growS A now k t i L m p 0) ?_ (grow_in A now k t i L m p g1' (fun nx S gg => ?_)))
              · unfold growS
                clear c1 c2 c3 g1' hc1
                have e0 : (((m.take 0).countP (eqP p) : Nat) : Int) = 0 := rfl
                (apply Ghost.mk [(0, 0), (1, 68)] []; (case hdead => rfl); (case hinj => rfl); (case hV => (simp only [go_sem, *]) <;> (repeat' (first | refine And.intro ?_ ?_ | exact View.int (by first | rfl | omega | (simp; done) | (rw [wrap_i64] <;> (try simp only [Int.natCast_add]) <;> omega) | (simp [*]; done)) | exact .bp rfl (by decide)))); (case hB => (simp only [go_sem, *]) <;> (repeat' (first | refine And.intro ?_ ?_ | exact ⟨_, rfl, BView.boxF rfl⟩))))
              · simp only [go_sem]
                refine Awp.ghost gg ?_
                unfold growS
                clear gg c1 c2 c3
                repeat' (first
    | (apply Awp.sreg; (case hn => (simp only [List.length_cons, List.length_nil, Nat.reduceAdd] <;> rfl)))
    | (refine st_nil ?_)
    | (apply st_a; (case hc => rfl); (case he => (simp only [go_sem, *] <;> rfl)); (case hu => (simp only [updL_nil, updL_cons] <;> rfl)); (case hp => first | trivial))
    | (apply Awp.reg; (case hn => (simp only [List.length_cons, List.length_nil, Nat.reduceAdd] <;> rfl)))
    | (refine Awp.skip ?_; try simp only [go_sem, *])
    | (apply Awp.cond; (case hc => (simp only [go_sem, *] <;> rfl)); all_goals (intro hg; (try simp only [Bool.not_true, Bool.not_false, reduceCtorEq] at hg)))
    | refine Awp.seq ?_)
                all_goals (refine ⟨(i + 1, m), ⟨by omega, g1'⟩, by show A.length - (i + 1) < A.length - i; omega, ?_⟩; clear g1'; dsimp only; (apply Ghost.mk [(0, 0)] []; (case hdead => rfl); (case hinj => rfl); (case hV => (simp only [go_sem, *]) <;> (repeat' (first | refine And.intro ?_ ?_ | exact View.int (by first | rfl | omega | (simp; done) | (rw [wrap_i64] <;> (try simp only [Int.natCast_add]) <;> omega) | (simp [*]; done)) | exact .bp rfl (by decide)))); (case hB => (simp only [go_sem, *]) <;> (repeat' (first | exact ⟨_, rfl, BView.boxF rfl⟩)))))
          · have haa : decide (p.a ≤ t) = false := decide_eq_false ha
            rw [hbb, haa] at hx
            rw [hx] at c2
            clear hx
            repeat' (first
    | (apply Awp.sreg; (case hn => (simp only [List.length_cons, List.length_nil, Nat.reduceAdd] <;> rfl)))
    | (refine st_nil ?_)
    | (apply st_a; (case hc => rfl); (case he => (simp only [go_sem, *] <;> rfl)); (case hu => (simp only [updL_nil, updL_cons] <;> rfl)); (case hp => first | trivial | omega))
    | (apply st_m; (case hc => rfl); (case hg => (simp only [go_sem, *] <;> rfl)); (case he => (intro hQz; (try simp only [wantB_t, wantB_f, Bool.and_eq_true, Bool.not_eq_true', Bool.not_true, Bool.not_false, and_true, true_and] at hQz); simp only [go_sem, *] <;> rfl)); (case hp => (intro hQz; (try simp only [wantB_t, wantB_f, Bool.and_eq_true, Bool.not_eq_true', Bool.or_eq_false_iff, decide_eq_true_eq, decide_eq_false_iff_not, beq_iff_eq, beq_eq_false_iff_ne, bne_iff_ne, bne_eq_false_iff_eq, Int.not_lt, Int.not_le, Int.ofNat_lt, Int.ofNat_le] at hQz); first | trivial)))
    | (apply st_c; (case hc => (simp only [go_sem, *] <;> rfl)); (case hl => (simp only [go_sem, *] <;> rfl)); (case hn => (simp only [go_sem, *] <;> rfl)); (case hp => first | exact c1 | (have hXz := c1; simp only [go_sem, *] at hXz; exact hXz)))
    | (apply st_mc; (case hop => rfl); (case hg => (simp only [go_sem, *] <;> rfl)); (case hc => (intro hQz; (try simp only [wantB_t, wantB_f, Bool.and_eq_true, Bool.not_eq_true', Bool.not_true, Bool.not_false, and_true, true_and] at hQz); simp only [go_sem, *] <;> rfl)); (case hl => (intro hQz; (try simp only [wantB_t, wantB_f, Bool.and_eq_true, Bool.not_eq_true', Bool.not_true, Bool.not_false, and_true, true_and] at hQz); simp only [go_sem, *] <;> rfl)); (case hn => (intro hQz; (try simp only [wantB_t, wantB_f, Bool.and_eq_true, Bool.not_eq_true', Bool.not_true, Bool.not_false, and_true, true_and] at hQz); simp only [go_sem, *] <;> rfl)); (case hp => intro hQz; first | exact c2 | (have hXz := c2; simp only [go_sem, *] at hXz; exact hXz)))
    | (apply st_mc; (case hop => rfl); (case hg => (simp only [go_sem, *] <;> rfl)); (case hc => (intro hQz; (try simp only [wantB_t, wantB_f, Bool.and_eq_true, Bool.not_eq_true', Bool.not_true, Bool.not_false, and_true, true_and] at hQz); simp only [go_sem, *] <;> rfl)); (case hl => (intro hQz; (try simp only [wantB_t, wantB_f, Bool.and_eq_true, Bool.not_eq_true', Bool.not_true, Bool.not_false, and_true, true_and] at hQz); simp only [go_sem, *] <;> rfl)); (case hn => (intro hQz; (try simp only [wantB_t, wantB_f, Bool.and_eq_true, Bool.not_eq_true', Bool.not_true, Bool.not_false, and_true, true_and] at hQz); simp only [go_sem, *] <;> rfl)); (case hp => intro hQz; first | exact c3 | (have hXz := c3; simp only [go_sem, *] at hXz; exact hXz)))
    | (refine Awp.skip ?_; try simp only [go_sem, *])
    | refine Awp.block ?_
    | (apply Awp.cond; (case hc => (simp only [go_sem, *] <;> rfl)); all_goals (intro hg; (try simp only [Bool.not_true, Bool.not_false, reduceCtorEq] at hg)))
    | refine Awp.seq ?_)
            all_goals first
              | (exact absurd (by assumption : ((((0 : Nat) : Int)) != 0) = true) (by decide))
              | skip
            all_goals (refine Awp.ghost (nx' := 80) (S' := growS A now k t i L m p 0) ?_ (grow_in A now k t i L m p g1' (fun nx S gg => ?_)))
            · unfold growS
              clear c1 c2 c3 g1' hc1
              have e0 : (((m.take 0).countP (eqP p) : Nat) : Int) = 0 := rfl
              (apply Ghost.mk [(0, 0), (1, 68)] []; (case hdead => rfl); (case hinj => rfl); (case hV => (simp only [go_sem, *]) <;> (repeat' (first | refine And.intro ?_ ?_ | exact View.int (by first | rfl | omega | (simp; done) | (rw [wrap_i64] <;> (try simp only [Int.natCast_add]) <;> omega) | (simp [*]; done)) | exact .bp rfl (by decide)))); (case hB => (simp only [go_sem, *]) <;> (repeat' (first | refine And.intro ?_ ?_ | exact ⟨_, rfl, BView.boxF rfl⟩))))
            · simp only [go_sem]
              refine Awp.ghost gg ?_
              unfold growS
              clear gg c1 c2 c3
              repeat' (first
    | (apply Awp.sreg; (case hn => (simp only [List.length_cons, List.length_nil, Nat.reduceAdd] <;> rfl)))
    | (refine st_nil ?_)
    | (apply st_a; (case hc => rfl); (case he => (simp only [go_sem, *] <;> rfl)); (case hu => (simp only [updL_nil, updL_cons] <;> rfl)); (case hp => first | trivial))
    | (apply Awp.reg; (case hn => (simp only [List.length_cons, List.length_nil, Nat.reduceAdd] <;> rfl)))
    | (refine Awp.skip ?_; try simp only [go_sem, *])
    | (apply Awp.cond; (case hc => (simp only [go_sem, *] <;> rfl)); all_goals (intro hg; (try simp only [Bool.not_true, Bool.not_false, reduceCtorEq] at hg)))
    | refine Awp.seq ?_)
              all_goals (refine ⟨(i + 1, m), ⟨by omega, g1'⟩, by show A.length - (i + 1) < A.length - i; omega, ?_⟩; clear g1'; dsimp only; (apply Ghost.mk [(0, 0)] []; (case hdead => rfl); (case hinj => rfl); (case hV => (simp only [go_sem, *]) <;> (repeat' (first | refine And.intro ?_ ?_ | exact View.int (by first | rfl | omega | (simp; done) | (rw [wrap_i64] <;> (try simp only [Int.natCast_add]) <;> omega) | (simp [*]; done)) | exact .bp rfl (by decide)))); (case hB => (simp only [go_sem, *]) <;> (repeat' (first | exact ⟨_, rfl, BView.boxF rfl⟩)))))
        · have hbb : (p.k == k) = false := by simpa using hk
          rw [hbb] at hx
          rw [hx] at c2
          clear hx
          repeat' (first
    | (apply Awp.sreg; (case hn => (simp only [List.length_cons, List.length_nil, Nat.reduceAdd] <;> rfl)))
    | (refine st_nil ?_)
    | (apply st_a; (case hc => rfl); (case he => (simp only [go_sem, *] <;> rfl)); (case hu => (simp only [updL_nil, updL_cons] <;> rfl)); (case hp => first | trivial | omega))
    | (apply st_m; (case hc => rfl); (case hg => (simp only [go_sem, *] <;> rfl)); (case he => (intro hQz; (try simp only [wantB_t, wantB_f, Bool.and_eq_true, Bool.not_eq_true', Bool.not_true, Bool.not_false, and_true, true_and] at hQz); simp only [go_sem, *] <;> rfl)); (case hp => (intro hQz; (try simp only [wantB_t, wantB_f, Bool.and_eq_true, Bool.not_eq_true', Bool.or_eq_false_iff, decide_eq_true_eq, decide_eq_false_iff_not, beq_iff_eq, beq_eq_false_iff_ne, bne_iff_ne, bne_eq_false_iff_eq, Int.not_lt, Int.not_le, Int.ofNat_lt, Int.ofNat_le] at hQz); first | trivial)))
    | (apply st_c; (case hc => (simp only [go_sem, *] <;> rfl)); (case hl => (simp only [go_sem, *] <;> rfl)); (case hn => (simp only [go_sem, *] <;> rfl)); (case hp => first | exact c1 | (have hXz := c1; simp only [go_sem, *] at hXz; exact hXz)))
    | (apply st_mc; (case hop => rfl); (case hg => (simp only [go_sem, *] <;> rfl)); (case hc => (intro hQz; (try simp only [wantB_t, wantB_f, Bool.and_eq_true, Bool.not_eq_true', Bool.not_true, Bool.not_false, and_true, true_and] at hQz); simp only [go_sem, *] <;> rfl)); (case hl => (intro hQz; (try simp only [wantB_t, wantB_f, Bool.and_eq_true, Bool.not_eq_true', Bool.not_true, Bool.not_false, and_true, true_and] at hQz); simp only [go_sem, *] <;> rfl)); (case hn => (intro hQz; (try simp only [wantB_t, wantB_f, Bool.and_eq_true, Bool.not_eq_true', Bool.not_true, Bool.not_false, and_true, true_and] at hQz); simp only [go_sem, *] <;> rfl)); (case hp => intro hQz; first | exact c2 | (have hXz := c2; simp only [go_sem, *] at hXz; exact hXz)))
    | (apply st_mc; (case hop => rfl); (case hg => (simp only [go_sem, *] <;> rfl)); (case hc => (intro hQz; (try simp only [wantB_t, wantB_f, Bool.and_eq_true, Bool.not_eq_true', Bool.not_true, Bool.not_false, and_true, true_and] at hQz); simp only [go_sem, *] <;> rfl)); (case hl => (intro hQz; (try simp only [wantB_t, wantB_f, Bool.and_eq_true, Bool.not_eq_true', Bool.not_true, Bool.not_false, and_true, true_and] at hQz); simp only [go_sem, *] <;> rfl)); (case hn => (intro hQz; (try simp only [wantB_t, wantB_f, Bool.and_eq_true, Bool.not_eq_true', Bool.not_true, Bool.not_false, and_true, true_and] at hQz); simp only [go_sem, *] <;> rfl)); (case hp => intro hQz; first | exact c3 | (have hXz := c3; simp only [go_sem, *] at hXz; exact hXz)))
    | (refine Awp.skip ?_; try simp only [go_sem, *])
    | refine Awp.block ?_
    | (apply Awp.cond; (case hc => (simp only [go_sem, *] <;> rfl)); all_goals (intro hg; (try simp only [Bool.not_true, Bool.not_false, reduceCtorEq] at hg)))
    | refine Awp.seq ?_)
          all_goals first
            | (exact absurd (by assumption : ((((0 : Nat) : Int)) != 0) = true) (by decide))
            | skip
          all_goals (refine Awp.ghost (nx' := 80) (S' := growS A now k t i L m p 0) ?_ (grow_in A now k t i L m p g1' (fun nx S gg => ?_)))
          · unfold growS
            clear c1 c2 c3 g1' hc1
            have e0 : (((m.take 0).countP (eqP p) : Nat) : Int) = 0 := rfl
            (apply Ghost.mk [(0, 0), (1, 68)] []; (case hdead => rfl); (case hinj => rfl); (case hV => (simp only [go_sem, *]) <;> (repeat' (first | refine And.intro ?_ ?_ | exact View.int (by first | rfl | omega | (simp; done) | (rw [wrap_i64] <;> (try simp only [Int.natCast_add]) <;> omega) | (simp [*]; done)) | exact .bp rfl (by decide)))); (case hB => (simp only [go_sem, *]) <;> (repeat' (first | refine And.intro ?_ ?_ | exact ⟨_, rfl, BView.boxF rfl⟩))))
          · simp only [go_sem]
            refine Awp.ghost gg ?_
            unfold growS
            clear gg c1 c2 c3
            repeat' (first
    | (apply Awp.sreg; (case hn => (simp only [List.length_cons, List.length_nil, Nat.reduceAdd] <;> rfl)))
    | (refine st_nil ?_)
    | (apply st_a; (case hc => rfl); (case he => (simp only [go_sem, *] <;> rfl)); (case hu => (simp only [updL_nil, updL_cons] <;> rfl)); (case hp => first | trivial))
    | (apply Awp.reg; (case hn => (simp only [List.length_cons, List.length_nil, Nat.reduceAdd] <;> rfl)))
    | (refine Awp.skip ?_; try simp only [go_sem, *])
    | (apply Awp.cond; (case hc => (simp only [go_sem, *] <;> rfl)); all_goals (intro hg; (try simp only [Bool.not_true, Bool.not_false, reduceCtorEq] at hg)))
    | refine Awp.seq ?_)
            all_goals (refine ⟨(i + 1, m), ⟨by omega, g1'⟩, by show A.length - (i + 1) < A.length - i; omega, ?_⟩; clear g1'; dsimp only; (apply Ghost.mk [(0, 0)] []; (case hdead => rfl); (case hinj => rfl); (case hV => (simp only [go_sem, *]) <;> (repeat' (first | refine And.intro ?_ ?_ | exact View.int (by first | rfl | omega | (simp; done) | (rw [wrap_i64] <;> (try simp only [Int.natCast_add]) <;> omega) | (simp [*]; done)) | exact .bp rfl (by decide)))); (case hB => (simp only [go_sem, *]) <;> (repeat' (first | exact ⟨_, rfl, BView.boxF rfl⟩)))))
      · have hb := addE_bad hE
        have hE' : ((addE L (A.getD i zeroPt) now).2 != 0) = true := by simpa using hE
        rw [hb] at c1
        have hG' : Hid (GoodPl L) := hG
        clear hb hE hG
        generalize (addE L (A.getD i zeroPt) now).2 = E at *
        repeat' (first
    | (apply Awp.sreg; (case hn => (simp only [List.length_cons, List.length_nil, Nat.reduceAdd] <;> rfl)))
    | (refine st_nil ?_)
    | (apply st_a; (case hc => rfl); (case he => (simp only [go_sem, *] <;> rfl)); (case hu => (simp only [updL_nil, updL_cons] <;> rfl)); (case hp => first | trivial | omega))
    | (apply st_c; (case hc => (simp only [go_sem, *] <;> rfl)); (case hl => (simp only [go_sem, *] <;> rfl)); (case hn => (simp only [go_sem, *] <;> rfl)); (case hp => first | exact c1 | (have hXz := c1; simp only [go_sem, *] at hXz; exact hXz)))
    | (apply Awp.reg; (case hn => (simp only [List.length_cons, List.length_nil, Nat.reduceAdd] <;> rfl)))
    | (refine Awp.ret ?_; try simp only [go_sem, *])
    | (refine Awp.skip ?_; try simp only [go_sem, *])
    | (refine Awp.exit ?_; try simp only [go_sem, *])
    | refine Awp.block ?_
    | (apply Awp.cond; (case hc => (simp only [go_sem, *] <;> rfl)); all_goals (intro hg; (try simp only [Bool.not_true, Bool.not_false, reduceCtorEq] at hg)))
    | refine Awp.seq ?_)
        all_goals first
          | (exact absurd (by assumption : ((((0 : Nat) : Int)) != 0) = true) (by decide))
          | skip
        all_goals try simp only [loopQ_normal]
        all_goals (refine ⟨(i + 1, L), ⟨by omega, hG'⟩, by show A.length - (i + 1) < A.length - i; omega, ?_⟩; clear c1 hG'; dsimp only; (apply Ghost.mk [(0, 0)] []; (case hdead => rfl); (case hinj => rfl); (case hV => (simp only [go_sem, *]) <;> (repeat' (first | refine And.intro ?_ ?_ | exact View.int (by first | rfl | omega | (simp; done) | (rw [wrap_i64] <;> (try simp only [Int.natCast_add]) <;> omega) | (simp [*]; done)) | exact .bp rfl (by decide)))); (case hB => (simp only [go_sem, *]) <;> (repeat' (first | exact ⟨_, rfl, BView.boxF rfl⟩)))))
    · have hlt' : ¬ (i : Int) < A.length := by omega
      clear hG
      repeat' (first
    | (apply Awp.sreg; (case hn => (simp only [List.length_cons, List.length_nil, Nat.reduceAdd] <;> rfl)))
    | (refine st_nil ?_)
    | (apply st_a; (case hc => rfl); (case he => (simp only [go_sem, *] <;> rfl)); (case hu => (simp only [updL_nil, updL_cons] <;> rfl)); (case hp => first | trivial))
    | (apply st_c; (case hc => (simp only [go_sem, *] <;> rfl)); (case hl => (simp only [go_sem, *] <;> rfl)); (case hn => (simp only [go_sem, *] <;> rfl)); (case hp => first | exact awake_ok | (have hXz := awake_ok; simp only [go_sem, *] at hXz; exact hXz)))
    | (refine Awp.ret ?_; try simp only [go_sem, *])
    | (refine Awp.exit ?_; try simp only [go_sem, *])
    | (apply Awp.cond; (case hc => (simp only [go_sem, *] <;> rfl)); all_goals (intro hg; (try simp only [Bool.not_true, Bool.not_false, reduceCtorEq] at hg)))
    | refine Awp.seq ?_)
      all_goals repeat' (first | exact Lower.bool (by first | rfl | (simp only [true_and, Bool.true_and, Bool.false_and, Bool.and_true, Bool.and_false, Bool.true_or, Bool.false_or, reduceIte, Bool.false_eq_true, *]; done) | (simp only [true_and, reduceIte, Bool.false_eq_true, *] <;> rfl) | (simp [true_and]; done) | (simp_all [true_and]; done) | omega))
end Go.Proofs
end
