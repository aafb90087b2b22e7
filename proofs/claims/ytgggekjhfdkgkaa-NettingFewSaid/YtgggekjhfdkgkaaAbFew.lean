/- The law on few debts, run abstractly. -/
import Derived.Test.YtgggekjhfdkgkaaAbW
namespace Go.Proofs.Ytgggekjhfdkgkaa.Ab
open Go Go.RowKit Go.Shelf
def cntz (ps : List Rat) (k : Nat) : Nat := (ps.take k).countP (fun r => decide (r.num ≠ 0))
theorem cntz_le (ps : List Rat) (k : Nat) : cntz ps k ≤ k := by
  have := List.countP_le_length (p := fun r : Rat => decide (r.num ≠ 0)) (l := ps.take k)
  unfold cntz; simp only [List.length_take] at this; omega
theorem cntz_hit {ps : List Rat} {k : Nat} (h : k < ps.length) (hz : ¬ ps[k].num = 0) : cntz ps (k + 1) = cntz ps k + 1 := by
  unfold cntz; rw [List.take_succ_eq_append_getElem h, List.countP_append, List.countP_singleton]; simp only [hz, ne_eq, not_false_eq_true, not_true_eq_false, decide_true, decide_false, if_true, Bool.false_eq_true, if_false, Nat.add_zero]
theorem cntz_miss {ps : List Rat} {k : Nat} (h : k < ps.length) (hz : ps[k].num = 0) : cntz ps (k + 1) = cntz ps k := by
  unfold cntz; rw [List.take_succ_eq_append_getElem h, List.countP_append, List.countP_singleton]; simp only [hz, ne_eq, not_false_eq_true, not_true_eq_false, decide_true, decide_false, if_true, Bool.false_eq_true, if_false, Nat.add_zero]
theorem cntz_all (ps : List Rat) : cntz ps ps.length = Nt.nz ps := by
  unfold cntz Nt.nz
  rw [List.take_length]
  congr 1
  funext r
  congr 1
  exact propext ⟨fun h e => h (by rw [e]; rfl), fun h e => h (Rat.num_eq_zero.1 e)⟩
set_option maxRecDepth 100000 in
set_option maxHeartbeats 20000000 in
theorem few_spec (m : Int) (l : List Nt.Debt) (nx : Nat) (hl : l.length ≤ 9223372036854775807) (hn : i64s l) : Spec Try.prog 5 [.int m, dsl l] [] nx (.bool true) [] nx := by
  by_cases h400 : l.length ≤ 400
  rotate_left
  · refine spec_of_awp Try.func5 (by kernel_rfl) rfl Try.ntmps5 (by rw [Try.results5]) (by simp) ?_; simp only [initEnv, Nat.zero_add, Nat.reduceAdd]
    (repeat (first
        | refine awp_seq (fun _ _ => ?_)
        | refine awp_block ?_
        | refine awp_scope ?_
        | (refine awp_region ?_; simp (config := {maxSteps := 400000}) (disch := omega) [wrapI, wrapU, List.getElem?_cons_zero, List.getElem?_nil, undef, aThen, aIn, aNoGoto, yv, aOps_nil, aOps_cons, aOp, aOpH, aMix_nil, aMix_cons, heapy, headN, aPure, aVal, aHeap, aEv, aBuilt, aLen, aMin, aMax, aBin, aUn, aConv, aLoad, aPart, aFieldAt, aIndexAt, aField, aIndex, aBuild, aBuildSlice, aParts, aFill, places, chunks, AV.cells, AV.one, AV.keyed, Value.oneCell', aStore, aMake, aAppend, aOld, aNew, putB, delB, get, St.E, St.put, dstOk, initEnv, aArgs, aResult, aResults, oneOf, keepE, frame, TypeDesc.isRow, sz3, by3, zt3, sz4, by4, zt4, sz22, by22, zt22, sz24, by24, zt24, sz25, by25, zt25, sz34, by34, zt34, sz38, by38, zt38, sz45, by45, zt45, sz47, by47, zt47, sz49, by49, sz52, by52, zt52, sz55, by55, zt55, sz58, by58, zt58, sz61, by61, zt61, sz65, by65, zt65, sz72, by72, zt72, Try.underlying3, Try.underlying4, Try.underlying22, Try.underlying24, Try.underlying25, Try.underlying34, Try.underlying38, Try.underlying45, Try.underlying47, Try.underlying49, Try.underlying52, Try.underlying55, Try.underlying58, Try.underlying61, Try.underlying65, Try.underlying72])
        | (refine awp_mix (by kernel_rfl) (by kernel_rfl) ?_; simp (config := {maxSteps := 400000}) (disch := omega) [wrapI, wrapU, List.getElem?_cons_zero, List.getElem?_nil, undef, aThen, aIn, aNoGoto, yv, aOps_nil, aOps_cons, aOp, aOpH, aMix_nil, aMix_cons, heapy, headN, aPure, aVal, aHeap, aEv, aBuilt, aLen, aMin, aMax, aBin, aUn, aConv, aLoad, aPart, aFieldAt, aIndexAt, aField, aIndex, aBuild, aBuildSlice, aParts, aFill, places, chunks, AV.cells, AV.one, AV.keyed, Value.oneCell', aStore, aMake, aAppend, aOld, aNew, putB, delB, get, St.E, St.put, dstOk, initEnv, aArgs, aResult, aResults, oneOf, keepE, frame, TypeDesc.isRow, sz3, by3, zt3, sz4, by4, zt4, sz22, by22, zt22, sz24, by24, zt24, sz25, by25, zt25, sz34, by34, zt34, sz38, by38, zt38, sz45, by45, zt45, sz47, by47, zt47, sz49, by49, sz52, by52, zt52, sz55, by55, zt55, sz58, by58, zt58, sz61, by61, zt61, sz65, by65, zt65, sz72, by72, zt72, Try.underlying3, Try.underlying4, Try.underlying22, Try.underlying24, Try.underlying25, Try.underlying34, Try.underlying38, Try.underlying45, Try.underlying47, Try.underlying49, Try.underlying52, Try.underlying55, Try.underlying58, Try.underlying61, Try.underlying65, Try.underlying72])
        | (refine awp_go (by assumption) [0, 1, 4, 5, 6, 7, 8, 9, 10, 12, 13, 14, 15, 16, 17, 18, 22, 47, 57, 65, 71, 77, 90, 94, 155] (by first | exact Nat.le_refl _ | exact Nat.le_add_right _ _ | (dsimp only; omega)) ?_; simp only [keepE, get, Nat.reduceEqDiff, if_true, if_false, reduceCtorEq])
        | refine awp_skip ?_
        | refine awp_exit ?_
        | refine awp_ret ?_
        | refine then_normal ?_
        | refine in_normal ?_
        | refine then_ret ?_
        | refine in_ret ?_
        | refine then_exit ?_
        | refine in_exit ?_
        | refine in_other (by decide) ?_
        | refine awp_condT rfl (by first | rfl | (simp; done) | (simp; omega)) ?_
        | refine awp_condF rfl (by first | rfl | (simp; done) | (simp; omega)) ?_
        | ((first | refine call_pure (head_spec _) ?_ | refine callH_pure (head_spec _) ?_); (first | unfold aLock | unfold aLockM); simp (config := {maxSteps := 400000}) (disch := omega) [wrapI, wrapU, List.getElem?_cons_zero, List.getElem?_nil, undef, aThen, aIn, aNoGoto, yv, aOps_nil, aOps_cons, aOp, aOpH, aMix_nil, aMix_cons, heapy, headN, aPure, aVal, aHeap, aEv, aBuilt, aLen, aMin, aMax, aBin, aUn, aConv, aLoad, aPart, aFieldAt, aIndexAt, aField, aIndex, aBuild, aBuildSlice, aParts, aFill, places, chunks, AV.cells, AV.one, AV.keyed, Value.oneCell', aStore, aMake, aAppend, aOld, aNew, putB, delB, get, St.E, St.put, dstOk, initEnv, aArgs, aResult, aResults, oneOf, keepE, frame, TypeDesc.isRow, sz3, by3, zt3, sz4, by4, zt4, sz22, by22, zt22, sz24, by24, zt24, sz25, by25, zt25, sz34, by34, zt34, sz38, by38, zt38, sz45, by45, zt45, sz47, by47, zt47, sz49, by49, sz52, by52, zt52, sz55, by55, zt55, sz58, by58, zt58, sz61, by61, zt61, sz65, by65, zt65, sz72, by72, zt72, Try.underlying3, Try.underlying4, Try.underlying22, Try.underlying24, Try.underlying25, Try.underlying34, Try.underlying38, Try.underlying45, Try.underlying47, Try.underlying49, Try.underlying52, Try.underlying55, Try.underlying58, Try.underlying61, Try.underlying65, Try.underlying72])))
    simp [aRet, subH, undef, aThen, aIn, aNoGoto, yv, aOps_nil, aOps_cons, aOp, aOpH, aMix_nil, aMix_cons, heapy, headN, aPure, aVal, aHeap, aEv, aBuilt, aLen, aMin, aMax, aBin, aUn, aConv, aLoad, aPart, aFieldAt, aIndexAt, aField, aIndex, aBuild, aBuildSlice, aParts, aFill, places, chunks, AV.cells, AV.one, AV.keyed, Value.oneCell', aStore, aMake, aAppend, aOld, aNew, putB, delB, get, St.E, St.put, dstOk, initEnv, aArgs, aResult, aResults, oneOf, keepE, frame, TypeDesc.isRow, sz3, by3, zt3, sz4, by4, zt4, sz22, by22, zt22, sz24, by24, zt24, sz25, by25, zt25, sz34, by34, zt34, sz38, by38, zt38, sz45, by45, zt45, sz47, by47, zt47, sz49, by49, sz52, by52, zt52, sz55, by55, zt55, sz58, by58, zt58, sz61, by61, zt61, sz65, by65, zt65, sz72, by72, zt72, Try.underlying3, Try.underlying4, Try.underlying22, Try.underlying24, Try.underlying25, Try.underlying34, Try.underlying38, Try.underlying45, Try.underlying47, Try.underlying49, Try.underlying52, Try.underlying55, Try.underlying58, Try.underlying61, Try.underlying65, Try.underlying72]
  have hP := posS m l nx (by omega) hn
  have hN := netS m l nx (by omega) hn
  have hB := pairsS m l nx (by omega) hn
  obtain ⟨c1, hc1⟩ : ∃ c, codeL (Nt.valid m l) (Nt.posL l m.toNat) = c := ⟨_, rfl⟩
  obtain ⟨c2, hc2⟩ : ∃ c, codeL (Nt.valid m l) (Nt.netO l m.toNat) = c := ⟨_, rfl⟩
  obtain ⟨c3, hc3⟩ : ∃ c, codeL (Nt.valid m l) (Nt.pairsO l m.toNat) = c := ⟨_, rfl⟩
  by_cases hok : c2 = 0
  rotate_left
  · -- no settling: the list is empty
    have hempty : outL (Nt.valid m l) (Nt.netO l m.toNat) = [] := by
      unfold codeL at hc2
      unfold outL
      cases hv : Nt.valid m l with
      | false => rfl
      | true =>
        rw [hv] at hc2
        cases ho : Nt.netO l m.toNat with
        | none => rfl
        | some o => rw [ho] at hc2; simp at hc2; omega
    rw [hc1] at hP
    rw [hc2, hempty] at hN
    rw [hc3] at hB
    by_cases h1 : c1 = 0
    all_goals
      refine spec_of_awp Try.func5 (by kernel_rfl) rfl Try.ntmps5 (by rw [Try.results5]) (by simp) ?_; simp only [initEnv, Nat.zero_add, Nat.reduceAdd]
      (repeat (first
          | refine awp_seq (fun _ _ => ?_)
          | refine awp_block ?_
          | refine awp_scope ?_
          | (refine awp_region ?_; simp (config := {maxSteps := 400000}) (disch := omega) [wrapI, wrapU, List.getElem?_cons_zero, List.getElem?_nil, undef, aThen, aIn, aNoGoto, yv, aOps_nil, aOps_cons, aOp, aOpH, aMix_nil, aMix_cons, heapy, headN, aPure, aVal, aHeap, aEv, aBuilt, aLen, aMin, aMax, aBin, aUn, aConv, aLoad, aPart, aFieldAt, aIndexAt, aField, aIndex, aBuild, aBuildSlice, aParts, aFill, places, chunks, AV.cells, AV.one, AV.keyed, Value.oneCell', aStore, aMake, aAppend, aOld, aNew, putB, delB, get, St.E, St.put, dstOk, initEnv, aArgs, aResult, aResults, oneOf, keepE, frame, TypeDesc.isRow, sz3, by3, zt3, sz4, by4, zt4, sz22, by22, zt22, sz24, by24, zt24, sz25, by25, zt25, sz34, by34, zt34, sz38, by38, zt38, sz45, by45, zt45, sz47, by47, zt47, sz49, by49, sz52, by52, zt52, sz55, by55, zt55, sz58, by58, zt58, sz61, by61, zt61, sz65, by65, zt65, sz72, by72, zt72, Try.underlying3, Try.underlying4, Try.underlying22, Try.underlying24, Try.underlying25, Try.underlying34, Try.underlying38, Try.underlying45, Try.underlying47, Try.underlying49, Try.underlying52, Try.underlying55, Try.underlying58, Try.underlying61, Try.underlying65, Try.underlying72, hok, h1])
          | (refine awp_mix (by kernel_rfl) (by kernel_rfl) ?_; simp (config := {maxSteps := 400000}) (disch := omega) [wrapI, wrapU, List.getElem?_cons_zero, List.getElem?_nil, undef, aThen, aIn, aNoGoto, yv, aOps_nil, aOps_cons, aOp, aOpH, aMix_nil, aMix_cons, heapy, headN, aPure, aVal, aHeap, aEv, aBuilt, aLen, aMin, aMax, aBin, aUn, aConv, aLoad, aPart, aFieldAt, aIndexAt, aField, aIndex, aBuild, aBuildSlice, aParts, aFill, places, chunks, AV.cells, AV.one, AV.keyed, Value.oneCell', aStore, aMake, aAppend, aOld, aNew, putB, delB, get, St.E, St.put, dstOk, initEnv, aArgs, aResult, aResults, oneOf, keepE, frame, TypeDesc.isRow, sz3, by3, zt3, sz4, by4, zt4, sz22, by22, zt22, sz24, by24, zt24, sz25, by25, zt25, sz34, by34, zt34, sz38, by38, zt38, sz45, by45, zt45, sz47, by47, zt47, sz49, by49, sz52, by52, zt52, sz55, by55, zt55, sz58, by58, zt58, sz61, by61, zt61, sz65, by65, zt65, sz72, by72, zt72, Try.underlying3, Try.underlying4, Try.underlying22, Try.underlying24, Try.underlying25, Try.underlying34, Try.underlying38, Try.underlying45, Try.underlying47, Try.underlying49, Try.underlying52, Try.underlying55, Try.underlying58, Try.underlying61, Try.underlying65, Try.underlying72, hok, h1])
          | (refine awp_go (by assumption) [0, 1, 4, 5, 6, 7, 8, 9, 10, 12, 13, 14, 15, 16, 17, 18, 22, 47, 57, 65, 71, 77, 90, 94, 155] (by first | exact Nat.le_refl _ | exact Nat.le_add_right _ _ | (dsimp only; omega)) ?_; simp only [keepE, get, Nat.reduceEqDiff, if_true, if_false, reduceCtorEq])
          | refine awp_skip ?_
          | refine awp_exit ?_
          | refine awp_ret ?_
          | refine then_normal ?_
          | refine in_normal ?_
          | refine then_ret ?_
          | refine in_ret ?_
          | refine then_exit ?_
          | refine in_exit ?_
          | refine in_other (by decide) ?_
          | refine awp_condT rfl (by first | rfl | (simp [hok, h1]; done) | (simp [hok, h1]; omega)) ?_
          | refine awp_condF rfl (by first | rfl | (simp [hok, h1]; done) | (simp [hok, h1]; omega)) ?_
          | ((first | refine call_pure (head_spec _) ?_ | refine callH_pure (head_spec _) ?_); (first | unfold aLock | unfold aLockM); simp (config := {maxSteps := 400000}) (disch := omega) [wrapI, wrapU, List.getElem?_cons_zero, List.getElem?_nil, undef, aThen, aIn, aNoGoto, yv, aOps_nil, aOps_cons, aOp, aOpH, aMix_nil, aMix_cons, heapy, headN, aPure, aVal, aHeap, aEv, aBuilt, aLen, aMin, aMax, aBin, aUn, aConv, aLoad, aPart, aFieldAt, aIndexAt, aField, aIndex, aBuild, aBuildSlice, aParts, aFill, places, chunks, AV.cells, AV.one, AV.keyed, Value.oneCell', aStore, aMake, aAppend, aOld, aNew, putB, delB, get, St.E, St.put, dstOk, initEnv, aArgs, aResult, aResults, oneOf, keepE, frame, TypeDesc.isRow, sz3, by3, zt3, sz4, by4, zt4, sz22, by22, zt22, sz24, by24, zt24, sz25, by25, zt25, sz34, by34, zt34, sz38, by38, zt38, sz45, by45, zt45, sz47, by47, zt47, sz49, by49, sz52, by52, zt52, sz55, by55, zt55, sz58, by58, zt58, sz61, by61, zt61, sz65, by65, zt65, sz72, by72, zt72, Try.underlying3, Try.underlying4, Try.underlying22, Try.underlying24, Try.underlying25, Try.underlying34, Try.underlying38, Try.underlying45, Try.underlying47, Try.underlying49, Try.underlying52, Try.underlying55, Try.underlying58, Try.underlying61, Try.underlying65, Try.underlying72, hok, h1])
          | ((first | refine call_pure (hP) ?_ | refine callH_pure (hP) ?_); (first | unfold aLock | unfold aLockM); simp (config := {maxSteps := 400000}) (disch := omega) [wrapI, wrapU, List.getElem?_cons_zero, List.getElem?_nil, undef, aThen, aIn, aNoGoto, yv, aOps_nil, aOps_cons, aOp, aOpH, aMix_nil, aMix_cons, heapy, headN, aPure, aVal, aHeap, aEv, aBuilt, aLen, aMin, aMax, aBin, aUn, aConv, aLoad, aPart, aFieldAt, aIndexAt, aField, aIndex, aBuild, aBuildSlice, aParts, aFill, places, chunks, AV.cells, AV.one, AV.keyed, Value.oneCell', aStore, aMake, aAppend, aOld, aNew, putB, delB, get, St.E, St.put, dstOk, initEnv, aArgs, aResult, aResults, oneOf, keepE, frame, TypeDesc.isRow, sz3, by3, zt3, sz4, by4, zt4, sz22, by22, zt22, sz24, by24, zt24, sz25, by25, zt25, sz34, by34, zt34, sz38, by38, zt38, sz45, by45, zt45, sz47, by47, zt47, sz49, by49, sz52, by52, zt52, sz55, by55, zt55, sz58, by58, zt58, sz61, by61, zt61, sz65, by65, zt65, sz72, by72, zt72, Try.underlying3, Try.underlying4, Try.underlying22, Try.underlying24, Try.underlying25, Try.underlying34, Try.underlying38, Try.underlying45, Try.underlying47, Try.underlying49, Try.underlying52, Try.underlying55, Try.underlying58, Try.underlying61, Try.underlying65, Try.underlying72, hok, h1])
          | ((first | refine call_pure (hN) ?_ | refine callH_pure (hN) ?_); (first | unfold aLock | unfold aLockM); simp (config := {maxSteps := 400000}) (disch := omega) [wrapI, wrapU, List.getElem?_cons_zero, List.getElem?_nil, undef, aThen, aIn, aNoGoto, yv, aOps_nil, aOps_cons, aOp, aOpH, aMix_nil, aMix_cons, heapy, headN, aPure, aVal, aHeap, aEv, aBuilt, aLen, aMin, aMax, aBin, aUn, aConv, aLoad, aPart, aFieldAt, aIndexAt, aField, aIndex, aBuild, aBuildSlice, aParts, aFill, places, chunks, AV.cells, AV.one, AV.keyed, Value.oneCell', aStore, aMake, aAppend, aOld, aNew, putB, delB, get, St.E, St.put, dstOk, initEnv, aArgs, aResult, aResults, oneOf, keepE, frame, TypeDesc.isRow, sz3, by3, zt3, sz4, by4, zt4, sz22, by22, zt22, sz24, by24, zt24, sz25, by25, zt25, sz34, by34, zt34, sz38, by38, zt38, sz45, by45, zt45, sz47, by47, zt47, sz49, by49, sz52, by52, zt52, sz55, by55, zt55, sz58, by58, zt58, sz61, by61, zt61, sz65, by65, zt65, sz72, by72, zt72, Try.underlying3, Try.underlying4, Try.underlying22, Try.underlying24, Try.underlying25, Try.underlying34, Try.underlying38, Try.underlying45, Try.underlying47, Try.underlying49, Try.underlying52, Try.underlying55, Try.underlying58, Try.underlying61, Try.underlying65, Try.underlying72, hok, h1])
          | ((first | refine call_pure (hB) ?_ | refine callH_pure (hB) ?_); (first | unfold aLock | unfold aLockM); simp (config := {maxSteps := 400000}) (disch := omega) [wrapI, wrapU, List.getElem?_cons_zero, List.getElem?_nil, undef, aThen, aIn, aNoGoto, yv, aOps_nil, aOps_cons, aOp, aOpH, aMix_nil, aMix_cons, heapy, headN, aPure, aVal, aHeap, aEv, aBuilt, aLen, aMin, aMax, aBin, aUn, aConv, aLoad, aPart, aFieldAt, aIndexAt, aField, aIndex, aBuild, aBuildSlice, aParts, aFill, places, chunks, AV.cells, AV.one, AV.keyed, Value.oneCell', aStore, aMake, aAppend, aOld, aNew, putB, delB, get, St.E, St.put, dstOk, initEnv, aArgs, aResult, aResults, oneOf, keepE, frame, TypeDesc.isRow, sz3, by3, zt3, sz4, by4, zt4, sz22, by22, zt22, sz24, by24, zt24, sz25, by25, zt25, sz34, by34, zt34, sz38, by38, zt38, sz45, by45, zt45, sz47, by47, zt47, sz49, by49, sz52, by52, zt52, sz55, by55, zt55, sz58, by58, zt58, sz61, by61, zt61, sz65, by65, zt65, sz72, by72, zt72, Try.underlying3, Try.underlying4, Try.underlying22, Try.underlying24, Try.underlying25, Try.underlying34, Try.underlying38, Try.underlying45, Try.underlying47, Try.underlying49, Try.underlying52, Try.underlying55, Try.underlying58, Try.underlying61, Try.underlying65, Try.underlying72, hok, h1])))
      simp [aRet, subH, undef, aThen, aIn, aNoGoto, yv, aOps_nil, aOps_cons, aOp, aOpH, aMix_nil, aMix_cons, heapy, headN, aPure, aVal, aHeap, aEv, aBuilt, aLen, aMin, aMax, aBin, aUn, aConv, aLoad, aPart, aFieldAt, aIndexAt, aField, aIndex, aBuild, aBuildSlice, aParts, aFill, places, chunks, AV.cells, AV.one, AV.keyed, Value.oneCell', aStore, aMake, aAppend, aOld, aNew, putB, delB, get, St.E, St.put, dstOk, initEnv, aArgs, aResult, aResults, oneOf, keepE, frame, TypeDesc.isRow, sz3, by3, zt3, sz4, by4, zt4, sz22, by22, zt22, sz24, by24, zt24, sz25, by25, zt25, sz34, by34, zt34, sz38, by38, zt38, sz45, by45, zt45, sz47, by47, zt47, sz49, by49, sz52, by52, zt52, sz55, by55, zt55, sz58, by58, zt58, sz61, by61, zt61, sz65, by65, zt65, sz72, by72, zt72, Try.underlying3, Try.underlying4, Try.underlying22, Try.underlying24, Try.underlying25, Try.underlying34, Try.underlying38, Try.underlying45, Try.underlying47, Try.underlying49, Try.underlying52, Try.underlying55, Try.underlying58, Try.underlying61, Try.underlying65, Try.underlying72]
  · subst hok
    obtain ⟨hv, a, ha, ps, hps⟩ : Nt.valid m l = true ∧ ∃ a, Nt.netO l m.toNat = some a ∧ ∃ ps, Nt.posL l m.toNat = some ps := by
      unfold codeL at hc2
      cases hv : Nt.valid m l with
      | false => rw [hv] at hc2; simp at hc2
      | true =>
        rw [hv] at hc2
        cases ho : Nt.netO l m.toNat with
        | none => rw [ho] at hc2; simp at hc2
        | some o =>
          refine ⟨rfl, o, rfl, ?_⟩
          cases hp : Nt.posL l m.toNat with
          | none => unfold Nt.netO at ho; rw [hp] at ho; cases ho
          | some ps => exact ⟨ps, rfl⟩
    have hm : m = (m.toNat : Int) := by have := (Nt.valid_iff.1 hv).1; omega
    have hv' : Nt.valid (m.toNat : Int) l = true := by rw [← hm]; exact hv
    have hm12 : m.toNat ≤ 12 := by have := (Nt.valid_iff.1 hv).1; omega
    have hc1' : c1 = 0 := by rw [← hc1, hv, hps]; rfl
    subst hc1'
    rw [hc1] at hP
    rw [hc2] at hN
    rw [hc3] at hB
    rw [hv, hps] at hP
    rw [hv, ha] at hN
    rw [hv] at hB
    have eP : outL true (some ps) = ps := rfl
    have eN : outL true (some a) = a := rfl
    rw [eP] at hP
    rw [eN] at hN
    obtain ⟨b, hb⟩ : ∃ b, outL true (Nt.pairsO l m.toNat) = b := ⟨_, rfl⟩
    rw [hb] at hB
    have hkey : (∀ x ∈ b, Nt.Keyed x) ∧ b.Pairwise (fun x y => Nt.key x < Nt.key y) ∧ b.length ≤ 144 := by
      cases hp : Nt.pairsO l m.toNat with
      | none => rw [hp] at hb; subst hb; exact ⟨fun x hx => by simp [outL] at hx, by simp [outL], by simp [outL]⟩
      | some o => rw [hp] at hb; subst hb; exact ⟨(Nt.pairs_key hm12 hp).1, (Nt.pairs_key hm12 hp).2, Nt.pairs_len hp⟩
    have hfew := (Nt.net_spec hv' hps ha).1
    have hap : ∀ (i k : Nat) (hi : i < a.length) (hk : k < a.length), a[i].f ≠ a[k].t := fun i k hi hk => Nt.net_apart hv' hps ha (List.getElem_mem hi) (List.getElem_mem hk)
    have hal := Nt.net_len hv' hps ha
    have hpl := Nt.posL_len hps
    clear hc1 hc2 hc3 ha hps hb eP eN hv hv'
    obtain ⟨hk1, hk2, hk3⟩ := hkey
    refine spec_of_awp Try.func5 (by kernel_rfl) rfl Try.ntmps5 (by rw [Try.results5]) (by simp) ?_; simp only [initEnv, Nat.zero_add, Nat.reduceAdd]
    (repeat (first
        | refine awp_seq (fun _ _ => ?_)
        | refine awp_block ?_
        | refine awp_scope ?_
        | (refine awp_region ?_; simp (config := {maxSteps := 400000}) (disch := omega) [wrapI, wrapU, List.getElem?_cons_zero, List.getElem?_nil, undef, aThen, aIn, aNoGoto, yv, aOps_nil, aOps_cons, aOp, aOpH, aMix_nil, aMix_cons, heapy, headN, aPure, aVal, aHeap, aEv, aBuilt, aLen, aMin, aMax, aBin, aUn, aConv, aLoad, aPart, aFieldAt, aIndexAt, aField, aIndex, aBuild, aBuildSlice, aParts, aFill, places, chunks, AV.cells, AV.one, AV.keyed, Value.oneCell', aStore, aMake, aAppend, aOld, aNew, putB, delB, get, St.E, St.put, dstOk, initEnv, aArgs, aResult, aResults, oneOf, keepE, frame, TypeDesc.isRow, sz3, by3, zt3, sz4, by4, zt4, sz22, by22, zt22, sz24, by24, zt24, sz25, by25, zt25, sz34, by34, zt34, sz38, by38, zt38, sz45, by45, zt45, sz47, by47, zt47, sz49, by49, sz52, by52, zt52, sz55, by55, zt55, sz58, by58, zt58, sz61, by61, zt61, sz65, by65, zt65, sz72, by72, zt72, Try.underlying3, Try.underlying4, Try.underlying22, Try.underlying24, Try.underlying25, Try.underlying34, Try.underlying38, Try.underlying45, Try.underlying47, Try.underlying49, Try.underlying52, Try.underlying55, Try.underlying58, Try.underlying61, Try.underlying65, Try.underlying72])
        | (refine awp_mix (by kernel_rfl) (by kernel_rfl) ?_; simp (config := {maxSteps := 400000}) (disch := omega) [wrapI, wrapU, List.getElem?_cons_zero, List.getElem?_nil, undef, aThen, aIn, aNoGoto, yv, aOps_nil, aOps_cons, aOp, aOpH, aMix_nil, aMix_cons, heapy, headN, aPure, aVal, aHeap, aEv, aBuilt, aLen, aMin, aMax, aBin, aUn, aConv, aLoad, aPart, aFieldAt, aIndexAt, aField, aIndex, aBuild, aBuildSlice, aParts, aFill, places, chunks, AV.cells, AV.one, AV.keyed, Value.oneCell', aStore, aMake, aAppend, aOld, aNew, putB, delB, get, St.E, St.put, dstOk, initEnv, aArgs, aResult, aResults, oneOf, keepE, frame, TypeDesc.isRow, sz3, by3, zt3, sz4, by4, zt4, sz22, by22, zt22, sz24, by24, zt24, sz25, by25, zt25, sz34, by34, zt34, sz38, by38, zt38, sz45, by45, zt45, sz47, by47, zt47, sz49, by49, sz52, by52, zt52, sz55, by55, zt55, sz58, by58, zt58, sz61, by61, zt61, sz65, by65, zt65, sz72, by72, zt72, Try.underlying3, Try.underlying4, Try.underlying22, Try.underlying24, Try.underlying25, Try.underlying34, Try.underlying38, Try.underlying45, Try.underlying47, Try.underlying49, Try.underlying52, Try.underlying55, Try.underlying58, Try.underlying61, Try.underlying65, Try.underlying72])
        | (refine awp_go (by assumption) [0, 1, 4, 5, 6, 7, 8, 9, 10, 12, 13, 14, 15, 16, 17, 18, 22, 47, 57, 65, 71, 77, 90, 94, 155] (by first | exact Nat.le_refl _ | exact Nat.le_add_right _ _ | (dsimp only; omega)) ?_; simp only [keepE, get, Nat.reduceEqDiff, if_true, if_false, reduceCtorEq])
        | refine awp_skip ?_
        | refine awp_exit ?_
        | refine awp_ret ?_
        | refine then_normal ?_
        | refine in_normal ?_
        | refine then_ret ?_
        | refine in_ret ?_
        | refine then_exit ?_
        | refine in_exit ?_
        | refine in_other (by decide) ?_
        | refine awp_condT rfl (by first | rfl | (simp; done) | (simp; omega)) ?_
        | refine awp_condF rfl (by first | rfl | (simp; done) | (simp; omega)) ?_
        | ((first | refine call_pure (head_spec _) ?_ | refine callH_pure (head_spec _) ?_); (first | unfold aLock | unfold aLockM); simp (config := {maxSteps := 400000}) (disch := omega) [wrapI, wrapU, List.getElem?_cons_zero, List.getElem?_nil, undef, aThen, aIn, aNoGoto, yv, aOps_nil, aOps_cons, aOp, aOpH, aMix_nil, aMix_cons, heapy, headN, aPure, aVal, aHeap, aEv, aBuilt, aLen, aMin, aMax, aBin, aUn, aConv, aLoad, aPart, aFieldAt, aIndexAt, aField, aIndex, aBuild, aBuildSlice, aParts, aFill, places, chunks, AV.cells, AV.one, AV.keyed, Value.oneCell', aStore, aMake, aAppend, aOld, aNew, putB, delB, get, St.E, St.put, dstOk, initEnv, aArgs, aResult, aResults, oneOf, keepE, frame, TypeDesc.isRow, sz3, by3, zt3, sz4, by4, zt4, sz22, by22, zt22, sz24, by24, zt24, sz25, by25, zt25, sz34, by34, zt34, sz38, by38, zt38, sz45, by45, zt45, sz47, by47, zt47, sz49, by49, sz52, by52, zt52, sz55, by55, zt55, sz58, by58, zt58, sz61, by61, zt61, sz65, by65, zt65, sz72, by72, zt72, Try.underlying3, Try.underlying4, Try.underlying22, Try.underlying24, Try.underlying25, Try.underlying34, Try.underlying38, Try.underlying45, Try.underlying47, Try.underlying49, Try.underlying52, Try.underlying55, Try.underlying58, Try.underlying61, Try.underlying65, Try.underlying72])
        | ((first | refine call_pure (hP) ?_ | refine callH_pure (hP) ?_); (first | unfold aLock | unfold aLockM); simp (config := {maxSteps := 400000}) (disch := omega) [wrapI, wrapU, List.getElem?_cons_zero, List.getElem?_nil, undef, aThen, aIn, aNoGoto, yv, aOps_nil, aOps_cons, aOp, aOpH, aMix_nil, aMix_cons, heapy, headN, aPure, aVal, aHeap, aEv, aBuilt, aLen, aMin, aMax, aBin, aUn, aConv, aLoad, aPart, aFieldAt, aIndexAt, aField, aIndex, aBuild, aBuildSlice, aParts, aFill, places, chunks, AV.cells, AV.one, AV.keyed, Value.oneCell', aStore, aMake, aAppend, aOld, aNew, putB, delB, get, St.E, St.put, dstOk, initEnv, aArgs, aResult, aResults, oneOf, keepE, frame, TypeDesc.isRow, sz3, by3, zt3, sz4, by4, zt4, sz22, by22, zt22, sz24, by24, zt24, sz25, by25, zt25, sz34, by34, zt34, sz38, by38, zt38, sz45, by45, zt45, sz47, by47, zt47, sz49, by49, sz52, by52, zt52, sz55, by55, zt55, sz58, by58, zt58, sz61, by61, zt61, sz65, by65, zt65, sz72, by72, zt72, Try.underlying3, Try.underlying4, Try.underlying22, Try.underlying24, Try.underlying25, Try.underlying34, Try.underlying38, Try.underlying45, Try.underlying47, Try.underlying49, Try.underlying52, Try.underlying55, Try.underlying58, Try.underlying61, Try.underlying65, Try.underlying72])
        | ((first | refine call_pure (hN) ?_ | refine callH_pure (hN) ?_); (first | unfold aLock | unfold aLockM); simp (config := {maxSteps := 400000}) (disch := omega) [wrapI, wrapU, List.getElem?_cons_zero, List.getElem?_nil, undef, aThen, aIn, aNoGoto, yv, aOps_nil, aOps_cons, aOp, aOpH, aMix_nil, aMix_cons, heapy, headN, aPure, aVal, aHeap, aEv, aBuilt, aLen, aMin, aMax, aBin, aUn, aConv, aLoad, aPart, aFieldAt, aIndexAt, aField, aIndex, aBuild, aBuildSlice, aParts, aFill, places, chunks, AV.cells, AV.one, AV.keyed, Value.oneCell', aStore, aMake, aAppend, aOld, aNew, putB, delB, get, St.E, St.put, dstOk, initEnv, aArgs, aResult, aResults, oneOf, keepE, frame, TypeDesc.isRow, sz3, by3, zt3, sz4, by4, zt4, sz22, by22, zt22, sz24, by24, zt24, sz25, by25, zt25, sz34, by34, zt34, sz38, by38, zt38, sz45, by45, zt45, sz47, by47, zt47, sz49, by49, sz52, by52, zt52, sz55, by55, zt55, sz58, by58, zt58, sz61, by61, zt61, sz65, by65, zt65, sz72, by72, zt72, Try.underlying3, Try.underlying4, Try.underlying22, Try.underlying24, Try.underlying25, Try.underlying34, Try.underlying38, Try.underlying45, Try.underlying47, Try.underlying49, Try.underlying52, Try.underlying55, Try.underlying58, Try.underlying61, Try.underlying65, Try.underlying72])
        | ((first | refine call_pure (hB) ?_ | refine callH_pure (hB) ?_); (first | unfold aLock | unfold aLockM); simp (config := {maxSteps := 400000}) (disch := omega) [wrapI, wrapU, List.getElem?_cons_zero, List.getElem?_nil, undef, aThen, aIn, aNoGoto, yv, aOps_nil, aOps_cons, aOp, aOpH, aMix_nil, aMix_cons, heapy, headN, aPure, aVal, aHeap, aEv, aBuilt, aLen, aMin, aMax, aBin, aUn, aConv, aLoad, aPart, aFieldAt, aIndexAt, aField, aIndex, aBuild, aBuildSlice, aParts, aFill, places, chunks, AV.cells, AV.one, AV.keyed, Value.oneCell', aStore, aMake, aAppend, aOld, aNew, putB, delB, get, St.E, St.put, dstOk, initEnv, aArgs, aResult, aResults, oneOf, keepE, frame, TypeDesc.isRow, sz3, by3, zt3, sz4, by4, zt4, sz22, by22, zt22, sz24, by24, zt24, sz25, by25, zt25, sz34, by34, zt34, sz38, by38, zt38, sz45, by45, zt45, sz47, by47, zt47, sz49, by49, sz52, by52, zt52, sz55, by55, zt55, sz58, by58, zt58, sz61, by61, zt61, sz65, by65, zt65, sz72, by72, zt72, Try.underlying3, Try.underlying4, Try.underlying22, Try.underlying24, Try.underlying25, Try.underlying34, Try.underlying38, Try.underlying45, Try.underlying47, Try.underlying49, Try.underlying52, Try.underlying55, Try.underlying58, Try.underlying61, Try.underlying65, Try.underlying72])))
    -- how many positions are not 0
    refine awp_loop (fun k : Nat => ⟨[(5, .bool true), (6, rsl ps), (8, dsl a), (10, dsl b), (12, .int (cntz ps k)), (13, .int k)], [], nx⟩) (fun m k => k ≤ ps.length ∧ ps.length - k ≤ m) ps.length 0 ⟨by omega, by omega⟩ (to_sub (Nat.le_refl _) (by simp [subE, cntz, undef, aThen, aIn, aNoGoto, yv, aOps_nil, aOps_cons, aOp, aOpH, aMix_nil, aMix_cons, heapy, headN, aPure, aVal, aHeap, aEv, aBuilt, aLen, aMin, aMax, aBin, aUn, aConv, aLoad, aPart, aFieldAt, aIndexAt, aField, aIndex, aBuild, aBuildSlice, aParts, aFill, places, chunks, AV.cells, AV.one, AV.keyed, Value.oneCell', aStore, aMake, aAppend, aOld, aNew, putB, delB, get, St.E, St.put, dstOk, initEnv, aArgs, aResult, aResults, oneOf, keepE, frame, TypeDesc.isRow, sz3, by3, zt3, sz4, by4, zt4, sz22, by22, zt22, sz24, by24, zt24, sz25, by25, zt25, sz34, by34, zt34, sz38, by38, zt38, sz45, by45, zt45, sz47, by47, zt47, sz49, by49, sz52, by52, zt52, sz55, by55, zt55, sz58, by58, zt58, sz61, by61, zt61, sz65, by65, zt65, sz72, by72, zt72, Try.underlying3, Try.underlying4, Try.underlying22, Try.underlying24, Try.underlying25, Try.underlying34, Try.underlying38, Try.underlying45, Try.underlying47, Try.underlying49, Try.underlying52, Try.underlying55, Try.underlying58, Try.underlying61, Try.underlying65, Try.underlying72]) (by simp [subH])) (fun m k ⟨hk, hm⟩ K hK => ?_)
    by_cases hlt : k < ps.length
    · have hcle := cntz_le ps k
      by_cases hz : ps[k].num = 0
      · have hc := cntz_miss hlt hz
        (repeat (first
            | refine awp_seq (fun _ _ => ?_)
            | refine awp_block ?_
            | refine awp_scope ?_
            | (refine awp_region ?_; simp (config := {maxSteps := 400000}) (disch := omega) [wrapI, wrapU, List.getElem?_cons_zero, List.getElem?_nil, undef, aThen, aIn, aNoGoto, yv, aOps_nil, aOps_cons, aOp, aOpH, aMix_nil, aMix_cons, heapy, headN, aPure, aVal, aHeap, aEv, aBuilt, aLen, aMin, aMax, aBin, aUn, aConv, aLoad, aPart, aFieldAt, aIndexAt, aField, aIndex, aBuild, aBuildSlice, aParts, aFill, places, chunks, AV.cells, AV.one, AV.keyed, Value.oneCell', aStore, aMake, aAppend, aOld, aNew, putB, delB, get, St.E, St.put, dstOk, initEnv, aArgs, aResult, aResults, oneOf, keepE, frame, TypeDesc.isRow, sz3, by3, zt3, sz4, by4, zt4, sz22, by22, zt22, sz24, by24, zt24, sz25, by25, zt25, sz34, by34, zt34, sz38, by38, zt38, sz45, by45, zt45, sz47, by47, zt47, sz49, by49, sz52, by52, zt52, sz55, by55, zt55, sz58, by58, zt58, sz61, by61, zt61, sz65, by65, zt65, sz72, by72, zt72, Try.underlying3, Try.underlying4, Try.underlying22, Try.underlying24, Try.underlying25, Try.underlying34, Try.underlying38, Try.underlying45, Try.underlying47, Try.underlying49, Try.underlying52, Try.underlying55, Try.underlying58, Try.underlying61, Try.underlying65, Try.underlying72, hz])
            | (refine awp_mix (by kernel_rfl) (by kernel_rfl) ?_; simp (config := {maxSteps := 400000}) (disch := omega) [wrapI, wrapU, List.getElem?_cons_zero, List.getElem?_nil, undef, aThen, aIn, aNoGoto, yv, aOps_nil, aOps_cons, aOp, aOpH, aMix_nil, aMix_cons, heapy, headN, aPure, aVal, aHeap, aEv, aBuilt, aLen, aMin, aMax, aBin, aUn, aConv, aLoad, aPart, aFieldAt, aIndexAt, aField, aIndex, aBuild, aBuildSlice, aParts, aFill, places, chunks, AV.cells, AV.one, AV.keyed, Value.oneCell', aStore, aMake, aAppend, aOld, aNew, putB, delB, get, St.E, St.put, dstOk, initEnv, aArgs, aResult, aResults, oneOf, keepE, frame, TypeDesc.isRow, sz3, by3, zt3, sz4, by4, zt4, sz22, by22, zt22, sz24, by24, zt24, sz25, by25, zt25, sz34, by34, zt34, sz38, by38, zt38, sz45, by45, zt45, sz47, by47, zt47, sz49, by49, sz52, by52, zt52, sz55, by55, zt55, sz58, by58, zt58, sz61, by61, zt61, sz65, by65, zt65, sz72, by72, zt72, Try.underlying3, Try.underlying4, Try.underlying22, Try.underlying24, Try.underlying25, Try.underlying34, Try.underlying38, Try.underlying45, Try.underlying47, Try.underlying49, Try.underlying52, Try.underlying55, Try.underlying58, Try.underlying61, Try.underlying65, Try.underlying72, hz])
            | (refine awp_go (by assumption) [0, 1, 4, 5, 6, 7, 8, 9, 10, 12, 13, 14, 15, 16, 17, 18, 22, 47, 57, 65, 71, 77, 90, 94, 155] (by first | exact Nat.le_refl _ | exact Nat.le_add_right _ _ | (dsimp only; omega)) ?_; simp only [keepE, get, Nat.reduceEqDiff, if_true, if_false, reduceCtorEq])
            | refine awp_skip ?_
            | refine awp_exit ?_
            | refine awp_ret ?_
            | refine then_normal ?_
            | refine in_normal ?_
            | refine then_ret ?_
            | refine in_ret ?_
            | refine then_exit ?_
            | refine in_exit ?_
            | refine in_other (by decide) ?_
            | refine awp_condT rfl (by first | rfl | (simp [hz]; done) | (simp [hz]; omega)) ?_
            | refine awp_condF rfl (by first | rfl | (simp [hz]; done) | (simp [hz]; omega)) ?_))
        refine hK _ (m - 1) (k + 1) (by omega) ⟨by omega, by omega⟩ (to_sub (Nat.le_refl _) (by simp [subE, hc, undef, aThen, aIn, aNoGoto, yv, aOps_nil, aOps_cons, aOp, aOpH, aMix_nil, aMix_cons, heapy, headN, aPure, aVal, aHeap, aEv, aBuilt, aLen, aMin, aMax, aBin, aUn, aConv, aLoad, aPart, aFieldAt, aIndexAt, aField, aIndex, aBuild, aBuildSlice, aParts, aFill, places, chunks, AV.cells, AV.one, AV.keyed, Value.oneCell', aStore, aMake, aAppend, aOld, aNew, putB, delB, get, St.E, St.put, dstOk, initEnv, aArgs, aResult, aResults, oneOf, keepE, frame, TypeDesc.isRow, sz3, by3, zt3, sz4, by4, zt4, sz22, by22, zt22, sz24, by24, zt24, sz25, by25, zt25, sz34, by34, zt34, sz38, by38, zt38, sz45, by45, zt45, sz47, by47, zt47, sz49, by49, sz52, by52, zt52, sz55, by55, zt55, sz58, by58, zt58, sz61, by61, zt61, sz65, by65, zt65, sz72, by72, zt72, Try.underlying3, Try.underlying4, Try.underlying22, Try.underlying24, Try.underlying25, Try.underlying34, Try.underlying38, Try.underlying45, Try.underlying47, Try.underlying49, Try.underlying52, Try.underlying55, Try.underlying58, Try.underlying61, Try.underlying65, Try.underlying72]) (by simp [subH]))
      · have hc := cntz_hit hlt hz
        (repeat (first
            | refine awp_seq (fun _ _ => ?_)
            | refine awp_block ?_
            | refine awp_scope ?_
            | (refine awp_region ?_; simp (config := {maxSteps := 400000}) (disch := omega) [wrapI, wrapU, List.getElem?_cons_zero, List.getElem?_nil, undef, aThen, aIn, aNoGoto, yv, aOps_nil, aOps_cons, aOp, aOpH, aMix_nil, aMix_cons, heapy, headN, aPure, aVal, aHeap, aEv, aBuilt, aLen, aMin, aMax, aBin, aUn, aConv, aLoad, aPart, aFieldAt, aIndexAt, aField, aIndex, aBuild, aBuildSlice, aParts, aFill, places, chunks, AV.cells, AV.one, AV.keyed, Value.oneCell', aStore, aMake, aAppend, aOld, aNew, putB, delB, get, St.E, St.put, dstOk, initEnv, aArgs, aResult, aResults, oneOf, keepE, frame, TypeDesc.isRow, sz3, by3, zt3, sz4, by4, zt4, sz22, by22, zt22, sz24, by24, zt24, sz25, by25, zt25, sz34, by34, zt34, sz38, by38, zt38, sz45, by45, zt45, sz47, by47, zt47, sz49, by49, sz52, by52, zt52, sz55, by55, zt55, sz58, by58, zt58, sz61, by61, zt61, sz65, by65, zt65, sz72, by72, zt72, Try.underlying3, Try.underlying4, Try.underlying22, Try.underlying24, Try.underlying25, Try.underlying34, Try.underlying38, Try.underlying45, Try.underlying47, Try.underlying49, Try.underlying52, Try.underlying55, Try.underlying58, Try.underlying61, Try.underlying65, Try.underlying72, hz])
            | (refine awp_mix (by kernel_rfl) (by kernel_rfl) ?_; simp (config := {maxSteps := 400000}) (disch := omega) [wrapI, wrapU, List.getElem?_cons_zero, List.getElem?_nil, undef, aThen, aIn, aNoGoto, yv, aOps_nil, aOps_cons, aOp, aOpH, aMix_nil, aMix_cons, heapy, headN, aPure, aVal, aHeap, aEv, aBuilt, aLen, aMin, aMax, aBin, aUn, aConv, aLoad, aPart, aFieldAt, aIndexAt, aField, aIndex, aBuild, aBuildSlice, aParts, aFill, places, chunks, AV.cells, AV.one, AV.keyed, Value.oneCell', aStore, aMake, aAppend, aOld, aNew, putB, delB, get, St.E, St.put, dstOk, initEnv, aArgs, aResult, aResults, oneOf, keepE, frame, TypeDesc.isRow, sz3, by3, zt3, sz4, by4, zt4, sz22, by22, zt22, sz24, by24, zt24, sz25, by25, zt25, sz34, by34, zt34, sz38, by38, zt38, sz45, by45, zt45, sz47, by47, zt47, sz49, by49, sz52, by52, zt52, sz55, by55, zt55, sz58, by58, zt58, sz61, by61, zt61, sz65, by65, zt65, sz72, by72, zt72, Try.underlying3, Try.underlying4, Try.underlying22, Try.underlying24, Try.underlying25, Try.underlying34, Try.underlying38, Try.underlying45, Try.underlying47, Try.underlying49, Try.underlying52, Try.underlying55, Try.underlying58, Try.underlying61, Try.underlying65, Try.underlying72, hz])
            | (refine awp_go (by assumption) [0, 1, 4, 5, 6, 7, 8, 9, 10, 12, 13, 14, 15, 16, 17, 18, 22, 47, 57, 65, 71, 77, 90, 94, 155] (by first | exact Nat.le_refl _ | exact Nat.le_add_right _ _ | (dsimp only; omega)) ?_; simp only [keepE, get, Nat.reduceEqDiff, if_true, if_false, reduceCtorEq])
            | refine awp_skip ?_
            | refine awp_exit ?_
            | refine awp_ret ?_
            | refine then_normal ?_
            | refine in_normal ?_
            | refine then_ret ?_
            | refine in_ret ?_
            | refine then_exit ?_
            | refine in_exit ?_
            | refine in_other (by decide) ?_
            | refine awp_condT rfl (by first | rfl | (simp [hz]; done) | (simp [hz]; omega)) ?_
            | refine awp_condF rfl (by first | rfl | (simp [hz]; done) | (simp [hz]; omega)) ?_))
        refine hK _ (m - 1) (k + 1) (by omega) ⟨by omega, by omega⟩ (to_sub (Nat.le_refl _) (by simp [subE, hc, undef, aThen, aIn, aNoGoto, yv, aOps_nil, aOps_cons, aOp, aOpH, aMix_nil, aMix_cons, heapy, headN, aPure, aVal, aHeap, aEv, aBuilt, aLen, aMin, aMax, aBin, aUn, aConv, aLoad, aPart, aFieldAt, aIndexAt, aField, aIndex, aBuild, aBuildSlice, aParts, aFill, places, chunks, AV.cells, AV.one, AV.keyed, Value.oneCell', aStore, aMake, aAppend, aOld, aNew, putB, delB, get, St.E, St.put, dstOk, initEnv, aArgs, aResult, aResults, oneOf, keepE, frame, TypeDesc.isRow, sz3, by3, zt3, sz4, by4, zt4, sz22, by22, zt22, sz24, by24, zt24, sz25, by25, zt25, sz34, by34, zt34, sz38, by38, zt38, sz45, by45, zt45, sz47, by47, zt47, sz49, by49, sz52, by52, zt52, sz55, by55, zt55, sz58, by58, zt58, sz61, by61, zt61, sz65, by65, zt65, sz72, by72, zt72, Try.underlying3, Try.underlying4, Try.underlying22, Try.underlying24, Try.underlying25, Try.underlying34, Try.underlying38, Try.underlying45, Try.underlying47, Try.underlying49, Try.underlying52, Try.underlying55, Try.underlying58, Try.underlying61, Try.underlying65, Try.underlying72]) (by simp [subH]))
    have hke : k = ps.length := by omega
    subst hke
    rw [cntz_all]
    have hnz12 := Nt.nz_le ps
    (repeat (first
        | refine awp_seq (fun _ _ => ?_)
        | refine awp_block ?_
        | refine awp_scope ?_
        | (refine awp_region ?_; simp (config := {maxSteps := 400000}) (disch := omega) [wrapI, wrapU, List.getElem?_cons_zero, List.getElem?_nil, undef, aThen, aIn, aNoGoto, yv, aOps_nil, aOps_cons, aOp, aOpH, aMix_nil, aMix_cons, heapy, headN, aPure, aVal, aHeap, aEv, aBuilt, aLen, aMin, aMax, aBin, aUn, aConv, aLoad, aPart, aFieldAt, aIndexAt, aField, aIndex, aBuild, aBuildSlice, aParts, aFill, places, chunks, AV.cells, AV.one, AV.keyed, Value.oneCell', aStore, aMake, aAppend, aOld, aNew, putB, delB, get, St.E, St.put, dstOk, initEnv, aArgs, aResult, aResults, oneOf, keepE, frame, TypeDesc.isRow, sz3, by3, zt3, sz4, by4, zt4, sz22, by22, zt22, sz24, by24, zt24, sz25, by25, zt25, sz34, by34, zt34, sz38, by38, zt38, sz45, by45, zt45, sz47, by47, zt47, sz49, by49, sz52, by52, zt52, sz55, by55, zt55, sz58, by58, zt58, sz61, by61, zt61, sz65, by65, zt65, sz72, by72, zt72, Try.underlying3, Try.underlying4, Try.underlying22, Try.underlying24, Try.underlying25, Try.underlying34, Try.underlying38, Try.underlying45, Try.underlying47, Try.underlying49, Try.underlying52, Try.underlying55, Try.underlying58, Try.underlying61, Try.underlying65, Try.underlying72])
        | (refine awp_mix (by kernel_rfl) (by kernel_rfl) ?_; simp (config := {maxSteps := 400000}) (disch := omega) [wrapI, wrapU, List.getElem?_cons_zero, List.getElem?_nil, undef, aThen, aIn, aNoGoto, yv, aOps_nil, aOps_cons, aOp, aOpH, aMix_nil, aMix_cons, heapy, headN, aPure, aVal, aHeap, aEv, aBuilt, aLen, aMin, aMax, aBin, aUn, aConv, aLoad, aPart, aFieldAt, aIndexAt, aField, aIndex, aBuild, aBuildSlice, aParts, aFill, places, chunks, AV.cells, AV.one, AV.keyed, Value.oneCell', aStore, aMake, aAppend, aOld, aNew, putB, delB, get, St.E, St.put, dstOk, initEnv, aArgs, aResult, aResults, oneOf, keepE, frame, TypeDesc.isRow, sz3, by3, zt3, sz4, by4, zt4, sz22, by22, zt22, sz24, by24, zt24, sz25, by25, zt25, sz34, by34, zt34, sz38, by38, zt38, sz45, by45, zt45, sz47, by47, zt47, sz49, by49, sz52, by52, zt52, sz55, by55, zt55, sz58, by58, zt58, sz61, by61, zt61, sz65, by65, zt65, sz72, by72, zt72, Try.underlying3, Try.underlying4, Try.underlying22, Try.underlying24, Try.underlying25, Try.underlying34, Try.underlying38, Try.underlying45, Try.underlying47, Try.underlying49, Try.underlying52, Try.underlying55, Try.underlying58, Try.underlying61, Try.underlying65, Try.underlying72])
        | (refine awp_go (by assumption) [0, 1, 4, 5, 6, 7, 8, 9, 10, 12, 13, 14, 15, 16, 17, 18, 22, 47, 57, 65, 71, 77, 90, 94, 155] (by first | exact Nat.le_refl _ | exact Nat.le_add_right _ _ | (dsimp only; omega)) ?_; simp only [keepE, get, Nat.reduceEqDiff, if_true, if_false, reduceCtorEq])
        | refine awp_skip ?_
        | refine awp_exit ?_
        | refine awp_ret ?_
        | refine then_normal ?_
        | refine in_normal ?_
        | refine then_ret ?_
        | refine in_ret ?_
        | refine then_exit ?_
        | refine in_exit ?_
        | refine in_other (by decide) ?_
        | refine awp_condT rfl (by first | rfl | (simp; done) | (simp; omega)) ?_
        | refine awp_condF rfl (by first | rfl | (simp; done) | (simp; omega)) ?_))
    -- nobody both owes and is owed
    refine awp_loop (fun k : Nat => ⟨[(5, .bool true), (8, dsl a), (10, dsl b), (12, .int (Nt.nz ps)), (14, .int k)], [], nx⟩) (fun m k => k ≤ a.length ∧ a.length - k ≤ m) a.length 0 ⟨by omega, by omega⟩ (to_sub (Nat.le_refl _) (by simp [subE, undef, aThen, aIn, aNoGoto, yv, aOps_nil, aOps_cons, aOp, aOpH, aMix_nil, aMix_cons, heapy, headN, aPure, aVal, aHeap, aEv, aBuilt, aLen, aMin, aMax, aBin, aUn, aConv, aLoad, aPart, aFieldAt, aIndexAt, aField, aIndex, aBuild, aBuildSlice, aParts, aFill, places, chunks, AV.cells, AV.one, AV.keyed, Value.oneCell', aStore, aMake, aAppend, aOld, aNew, putB, delB, get, St.E, St.put, dstOk, initEnv, aArgs, aResult, aResults, oneOf, keepE, frame, TypeDesc.isRow, sz3, by3, zt3, sz4, by4, zt4, sz22, by22, zt22, sz24, by24, zt24, sz25, by25, zt25, sz34, by34, zt34, sz38, by38, zt38, sz45, by45, zt45, sz47, by47, zt47, sz49, by49, sz52, by52, zt52, sz55, by55, zt55, sz58, by58, zt58, sz61, by61, zt61, sz65, by65, zt65, sz72, by72, zt72, Try.underlying3, Try.underlying4, Try.underlying22, Try.underlying24, Try.underlying25, Try.underlying34, Try.underlying38, Try.underlying45, Try.underlying47, Try.underlying49, Try.underlying52, Try.underlying55, Try.underlying58, Try.underlying61, Try.underlying65, Try.underlying72]) (by simp [subH])) (fun m k ⟨hk, hm⟩ K hK => ?_)
    by_cases hlt : k < a.length
    · (repeat (first
          | refine awp_seq (fun _ _ => ?_)
          | refine awp_block ?_
          | refine awp_scope ?_
          | (refine awp_region ?_; simp (config := {maxSteps := 400000}) (disch := omega) [wrapI, wrapU, List.getElem?_cons_zero, List.getElem?_nil, undef, aThen, aIn, aNoGoto, yv, aOps_nil, aOps_cons, aOp, aOpH, aMix_nil, aMix_cons, heapy, headN, aPure, aVal, aHeap, aEv, aBuilt, aLen, aMin, aMax, aBin, aUn, aConv, aLoad, aPart, aFieldAt, aIndexAt, aField, aIndex, aBuild, aBuildSlice, aParts, aFill, places, chunks, AV.cells, AV.one, AV.keyed, Value.oneCell', aStore, aMake, aAppend, aOld, aNew, putB, delB, get, St.E, St.put, dstOk, initEnv, aArgs, aResult, aResults, oneOf, keepE, frame, TypeDesc.isRow, sz3, by3, zt3, sz4, by4, zt4, sz22, by22, zt22, sz24, by24, zt24, sz25, by25, zt25, sz34, by34, zt34, sz38, by38, zt38, sz45, by45, zt45, sz47, by47, zt47, sz49, by49, sz52, by52, zt52, sz55, by55, zt55, sz58, by58, zt58, sz61, by61, zt61, sz65, by65, zt65, sz72, by72, zt72, Try.underlying3, Try.underlying4, Try.underlying22, Try.underlying24, Try.underlying25, Try.underlying34, Try.underlying38, Try.underlying45, Try.underlying47, Try.underlying49, Try.underlying52, Try.underlying55, Try.underlying58, Try.underlying61, Try.underlying65, Try.underlying72])
          | (refine awp_mix (by kernel_rfl) (by kernel_rfl) ?_; simp (config := {maxSteps := 400000}) (disch := omega) [wrapI, wrapU, List.getElem?_cons_zero, List.getElem?_nil, undef, aThen, aIn, aNoGoto, yv, aOps_nil, aOps_cons, aOp, aOpH, aMix_nil, aMix_cons, heapy, headN, aPure, aVal, aHeap, aEv, aBuilt, aLen, aMin, aMax, aBin, aUn, aConv, aLoad, aPart, aFieldAt, aIndexAt, aField, aIndex, aBuild, aBuildSlice, aParts, aFill, places, chunks, AV.cells, AV.one, AV.keyed, Value.oneCell', aStore, aMake, aAppend, aOld, aNew, putB, delB, get, St.E, St.put, dstOk, initEnv, aArgs, aResult, aResults, oneOf, keepE, frame, TypeDesc.isRow, sz3, by3, zt3, sz4, by4, zt4, sz22, by22, zt22, sz24, by24, zt24, sz25, by25, zt25, sz34, by34, zt34, sz38, by38, zt38, sz45, by45, zt45, sz47, by47, zt47, sz49, by49, sz52, by52, zt52, sz55, by55, zt55, sz58, by58, zt58, sz61, by61, zt61, sz65, by65, zt65, sz72, by72, zt72, Try.underlying3, Try.underlying4, Try.underlying22, Try.underlying24, Try.underlying25, Try.underlying34, Try.underlying38, Try.underlying45, Try.underlying47, Try.underlying49, Try.underlying52, Try.underlying55, Try.underlying58, Try.underlying61, Try.underlying65, Try.underlying72])
          | (refine awp_go (by assumption) [0, 1, 4, 5, 6, 7, 8, 9, 10, 12, 13, 14, 15, 16, 17, 18, 22, 47, 57, 65, 71, 77, 90, 94, 155] (by first | exact Nat.le_refl _ | exact Nat.le_add_right _ _ | (dsimp only; omega)) ?_; simp only [keepE, get, Nat.reduceEqDiff, if_true, if_false, reduceCtorEq])
          | refine awp_skip ?_
          | refine awp_exit ?_
          | refine awp_ret ?_
          | refine then_normal ?_
          | refine in_normal ?_
          | refine then_ret ?_
          | refine in_ret ?_
          | refine then_exit ?_
          | refine in_exit ?_
          | refine in_other (by decide) ?_
          | refine awp_condT rfl (by first | rfl | (simp; done) | (simp; omega)) ?_
          | refine awp_condF rfl (by first | rfl | (simp; done) | (simp; omega)) ?_))
      refine awp_loop (fun j : Nat => ⟨[(5, .bool true), (8, dsl a), (10, dsl b), (12, .int (Nt.nz ps)), (14, .int k), (15, .int j)], [], nx⟩) (fun m j => j ≤ a.length ∧ a.length - j ≤ m) a.length 0 ⟨by omega, by omega⟩ (to_sub (Nat.le_refl _) (by simp [subE, undef, aThen, aIn, aNoGoto, yv, aOps_nil, aOps_cons, aOp, aOpH, aMix_nil, aMix_cons, heapy, headN, aPure, aVal, aHeap, aEv, aBuilt, aLen, aMin, aMax, aBin, aUn, aConv, aLoad, aPart, aFieldAt, aIndexAt, aField, aIndex, aBuild, aBuildSlice, aParts, aFill, places, chunks, AV.cells, AV.one, AV.keyed, Value.oneCell', aStore, aMake, aAppend, aOld, aNew, putB, delB, get, St.E, St.put, dstOk, initEnv, aArgs, aResult, aResults, oneOf, keepE, frame, TypeDesc.isRow, sz3, by3, zt3, sz4, by4, zt4, sz22, by22, zt22, sz24, by24, zt24, sz25, by25, zt25, sz34, by34, zt34, sz38, by38, zt38, sz45, by45, zt45, sz47, by47, zt47, sz49, by49, sz52, by52, zt52, sz55, by55, zt55, sz58, by58, zt58, sz61, by61, zt61, sz65, by65, zt65, sz72, by72, zt72, Try.underlying3, Try.underlying4, Try.underlying22, Try.underlying24, Try.underlying25, Try.underlying34, Try.underlying38, Try.underlying45, Try.underlying47, Try.underlying49, Try.underlying52, Try.underlying55, Try.underlying58, Try.underlying61, Try.underlying65, Try.underlying72]) (by simp [subH])) (fun m2 j ⟨hj, hm2⟩ K2 hK2 => ?_)
      by_cases hlt2 : j < a.length
      · have h1 := hap k j hlt hlt2
        (repeat (first
            | refine awp_seq (fun _ _ => ?_)
            | refine awp_block ?_
            | refine awp_scope ?_
            | (refine awp_region ?_; simp (config := {maxSteps := 400000}) (disch := omega) [wrapI, wrapU, List.getElem?_cons_zero, List.getElem?_nil, undef, aThen, aIn, aNoGoto, yv, aOps_nil, aOps_cons, aOp, aOpH, aMix_nil, aMix_cons, heapy, headN, aPure, aVal, aHeap, aEv, aBuilt, aLen, aMin, aMax, aBin, aUn, aConv, aLoad, aPart, aFieldAt, aIndexAt, aField, aIndex, aBuild, aBuildSlice, aParts, aFill, places, chunks, AV.cells, AV.one, AV.keyed, Value.oneCell', aStore, aMake, aAppend, aOld, aNew, putB, delB, get, St.E, St.put, dstOk, initEnv, aArgs, aResult, aResults, oneOf, keepE, frame, TypeDesc.isRow, sz3, by3, zt3, sz4, by4, zt4, sz22, by22, zt22, sz24, by24, zt24, sz25, by25, zt25, sz34, by34, zt34, sz38, by38, zt38, sz45, by45, zt45, sz47, by47, zt47, sz49, by49, sz52, by52, zt52, sz55, by55, zt55, sz58, by58, zt58, sz61, by61, zt61, sz65, by65, zt65, sz72, by72, zt72, Try.underlying3, Try.underlying4, Try.underlying22, Try.underlying24, Try.underlying25, Try.underlying34, Try.underlying38, Try.underlying45, Try.underlying47, Try.underlying49, Try.underlying52, Try.underlying55, Try.underlying58, Try.underlying61, Try.underlying65, Try.underlying72, h1])
            | (refine awp_mix (by kernel_rfl) (by kernel_rfl) ?_; simp (config := {maxSteps := 400000}) (disch := omega) [wrapI, wrapU, List.getElem?_cons_zero, List.getElem?_nil, undef, aThen, aIn, aNoGoto, yv, aOps_nil, aOps_cons, aOp, aOpH, aMix_nil, aMix_cons, heapy, headN, aPure, aVal, aHeap, aEv, aBuilt, aLen, aMin, aMax, aBin, aUn, aConv, aLoad, aPart, aFieldAt, aIndexAt, aField, aIndex, aBuild, aBuildSlice, aParts, aFill, places, chunks, AV.cells, AV.one, AV.keyed, Value.oneCell', aStore, aMake, aAppend, aOld, aNew, putB, delB, get, St.E, St.put, dstOk, initEnv, aArgs, aResult, aResults, oneOf, keepE, frame, TypeDesc.isRow, sz3, by3, zt3, sz4, by4, zt4, sz22, by22, zt22, sz24, by24, zt24, sz25, by25, zt25, sz34, by34, zt34, sz38, by38, zt38, sz45, by45, zt45, sz47, by47, zt47, sz49, by49, sz52, by52, zt52, sz55, by55, zt55, sz58, by58, zt58, sz61, by61, zt61, sz65, by65, zt65, sz72, by72, zt72, Try.underlying3, Try.underlying4, Try.underlying22, Try.underlying24, Try.underlying25, Try.underlying34, Try.underlying38, Try.underlying45, Try.underlying47, Try.underlying49, Try.underlying52, Try.underlying55, Try.underlying58, Try.underlying61, Try.underlying65, Try.underlying72, h1])
            | (refine awp_go (by assumption) [0, 1, 4, 5, 6, 7, 8, 9, 10, 12, 13, 14, 15, 16, 17, 18, 22, 47, 57, 65, 71, 77, 90, 94, 155] (by first | exact Nat.le_refl _ | exact Nat.le_add_right _ _ | (dsimp only; omega)) ?_; simp only [keepE, get, Nat.reduceEqDiff, if_true, if_false, reduceCtorEq])
            | refine awp_skip ?_
            | refine awp_exit ?_
            | refine awp_ret ?_
            | refine then_normal ?_
            | refine in_normal ?_
            | refine then_ret ?_
            | refine in_ret ?_
            | refine then_exit ?_
            | refine in_exit ?_
            | refine in_other (by decide) ?_
            | refine awp_condT rfl (by first | rfl | (simp [h1]; done) | (simp [h1]; omega)) ?_
            | refine awp_condF rfl (by first | rfl | (simp [h1]; done) | (simp [h1]; omega)) ?_))
        refine hK2 _ (m2 - 1) (j + 1) (by omega) ⟨by omega, by omega⟩ (to_sub (Nat.le_refl _) (by simp [subE, undef, aThen, aIn, aNoGoto, yv, aOps_nil, aOps_cons, aOp, aOpH, aMix_nil, aMix_cons, heapy, headN, aPure, aVal, aHeap, aEv, aBuilt, aLen, aMin, aMax, aBin, aUn, aConv, aLoad, aPart, aFieldAt, aIndexAt, aField, aIndex, aBuild, aBuildSlice, aParts, aFill, places, chunks, AV.cells, AV.one, AV.keyed, Value.oneCell', aStore, aMake, aAppend, aOld, aNew, putB, delB, get, St.E, St.put, dstOk, initEnv, aArgs, aResult, aResults, oneOf, keepE, frame, TypeDesc.isRow, sz3, by3, zt3, sz4, by4, zt4, sz22, by22, zt22, sz24, by24, zt24, sz25, by25, zt25, sz34, by34, zt34, sz38, by38, zt38, sz45, by45, zt45, sz47, by47, zt47, sz49, by49, sz52, by52, zt52, sz55, by55, zt55, sz58, by58, zt58, sz61, by61, zt61, sz65, by65, zt65, sz72, by72, zt72, Try.underlying3, Try.underlying4, Try.underlying22, Try.underlying24, Try.underlying25, Try.underlying34, Try.underlying38, Try.underlying45, Try.underlying47, Try.underlying49, Try.underlying52, Try.underlying55, Try.underlying58, Try.underlying61, Try.underlying65, Try.underlying72]) (by simp [subH]))
      · (repeat (first
            | refine awp_seq (fun _ _ => ?_)
            | refine awp_block ?_
            | refine awp_scope ?_
            | (refine awp_region ?_; simp (config := {maxSteps := 400000}) (disch := omega) [wrapI, wrapU, List.getElem?_cons_zero, List.getElem?_nil, undef, aThen, aIn, aNoGoto, yv, aOps_nil, aOps_cons, aOp, aOpH, aMix_nil, aMix_cons, heapy, headN, aPure, aVal, aHeap, aEv, aBuilt, aLen, aMin, aMax, aBin, aUn, aConv, aLoad, aPart, aFieldAt, aIndexAt, aField, aIndex, aBuild, aBuildSlice, aParts, aFill, places, chunks, AV.cells, AV.one, AV.keyed, Value.oneCell', aStore, aMake, aAppend, aOld, aNew, putB, delB, get, St.E, St.put, dstOk, initEnv, aArgs, aResult, aResults, oneOf, keepE, frame, TypeDesc.isRow, sz3, by3, zt3, sz4, by4, zt4, sz22, by22, zt22, sz24, by24, zt24, sz25, by25, zt25, sz34, by34, zt34, sz38, by38, zt38, sz45, by45, zt45, sz47, by47, zt47, sz49, by49, sz52, by52, zt52, sz55, by55, zt55, sz58, by58, zt58, sz61, by61, zt61, sz65, by65, zt65, sz72, by72, zt72, Try.underlying3, Try.underlying4, Try.underlying22, Try.underlying24, Try.underlying25, Try.underlying34, Try.underlying38, Try.underlying45, Try.underlying47, Try.underlying49, Try.underlying52, Try.underlying55, Try.underlying58, Try.underlying61, Try.underlying65, Try.underlying72])
            | (refine awp_mix (by kernel_rfl) (by kernel_rfl) ?_; simp (config := {maxSteps := 400000}) (disch := omega) [wrapI, wrapU, List.getElem?_cons_zero, List.getElem?_nil, undef, aThen, aIn, aNoGoto, yv, aOps_nil, aOps_cons, aOp, aOpH, aMix_nil, aMix_cons, heapy, headN, aPure, aVal, aHeap, aEv, aBuilt, aLen, aMin, aMax, aBin, aUn, aConv, aLoad, aPart, aFieldAt, aIndexAt, aField, aIndex, aBuild, aBuildSlice, aParts, aFill, places, chunks, AV.cells, AV.one, AV.keyed, Value.oneCell', aStore, aMake, aAppend, aOld, aNew, putB, delB, get, St.E, St.put, dstOk, initEnv, aArgs, aResult, aResults, oneOf, keepE, frame, TypeDesc.isRow, sz3, by3, zt3, sz4, by4, zt4, sz22, by22, zt22, sz24, by24, zt24, sz25, by25, zt25, sz34, by34, zt34, sz38, by38, zt38, sz45, by45, zt45, sz47, by47, zt47, sz49, by49, sz52, by52, zt52, sz55, by55, zt55, sz58, by58, zt58, sz61, by61, zt61, sz65, by65, zt65, sz72, by72, zt72, Try.underlying3, Try.underlying4, Try.underlying22, Try.underlying24, Try.underlying25, Try.underlying34, Try.underlying38, Try.underlying45, Try.underlying47, Try.underlying49, Try.underlying52, Try.underlying55, Try.underlying58, Try.underlying61, Try.underlying65, Try.underlying72])
            | (refine awp_go (by assumption) [0, 1, 4, 5, 6, 7, 8, 9, 10, 12, 13, 14, 15, 16, 17, 18, 22, 47, 57, 65, 71, 77, 90, 94, 155] (by first | exact Nat.le_refl _ | exact Nat.le_add_right _ _ | (dsimp only; omega)) ?_; simp only [keepE, get, Nat.reduceEqDiff, if_true, if_false, reduceCtorEq])
            | refine awp_skip ?_
            | refine awp_exit ?_
            | refine awp_ret ?_
            | refine then_normal ?_
            | refine in_normal ?_
            | refine then_ret ?_
            | refine in_ret ?_
            | refine then_exit ?_
            | refine in_exit ?_
            | refine in_other (by decide) ?_
            | refine awp_condT rfl (by first | rfl | (simp; done) | (simp; omega)) ?_
            | refine awp_condF rfl (by first | rfl | (simp; done) | (simp; omega)) ?_))
        refine hK _ (m - 1) (k + 1) (by omega) ⟨by omega, by omega⟩ (to_sub (Nat.le_refl _) (by simp [subE, undef, aThen, aIn, aNoGoto, yv, aOps_nil, aOps_cons, aOp, aOpH, aMix_nil, aMix_cons, heapy, headN, aPure, aVal, aHeap, aEv, aBuilt, aLen, aMin, aMax, aBin, aUn, aConv, aLoad, aPart, aFieldAt, aIndexAt, aField, aIndex, aBuild, aBuildSlice, aParts, aFill, places, chunks, AV.cells, AV.one, AV.keyed, Value.oneCell', aStore, aMake, aAppend, aOld, aNew, putB, delB, get, St.E, St.put, dstOk, initEnv, aArgs, aResult, aResults, oneOf, keepE, frame, TypeDesc.isRow, sz3, by3, zt3, sz4, by4, zt4, sz22, by22, zt22, sz24, by24, zt24, sz25, by25, zt25, sz34, by34, zt34, sz38, by38, zt38, sz45, by45, zt45, sz47, by47, zt47, sz49, by49, sz52, by52, zt52, sz55, by55, zt55, sz58, by58, zt58, sz61, by61, zt61, sz65, by65, zt65, sz72, by72, zt72, Try.underlying3, Try.underlying4, Try.underlying22, Try.underlying24, Try.underlying25, Try.underlying34, Try.underlying38, Try.underlying45, Try.underlying47, Try.underlying49, Try.underlying52, Try.underlying55, Try.underlying58, Try.underlying61, Try.underlying65, Try.underlying72]) (by simp [subH]))
    (repeat (first
        | refine awp_seq (fun _ _ => ?_)
        | refine awp_block ?_
        | refine awp_scope ?_
        | (refine awp_region ?_; simp (config := {maxSteps := 400000}) (disch := omega) [wrapI, wrapU, List.getElem?_cons_zero, List.getElem?_nil, undef, aThen, aIn, aNoGoto, yv, aOps_nil, aOps_cons, aOp, aOpH, aMix_nil, aMix_cons, heapy, headN, aPure, aVal, aHeap, aEv, aBuilt, aLen, aMin, aMax, aBin, aUn, aConv, aLoad, aPart, aFieldAt, aIndexAt, aField, aIndex, aBuild, aBuildSlice, aParts, aFill, places, chunks, AV.cells, AV.one, AV.keyed, Value.oneCell', aStore, aMake, aAppend, aOld, aNew, putB, delB, get, St.E, St.put, dstOk, initEnv, aArgs, aResult, aResults, oneOf, keepE, frame, TypeDesc.isRow, sz3, by3, zt3, sz4, by4, zt4, sz22, by22, zt22, sz24, by24, zt24, sz25, by25, zt25, sz34, by34, zt34, sz38, by38, zt38, sz45, by45, zt45, sz47, by47, zt47, sz49, by49, sz52, by52, zt52, sz55, by55, zt55, sz58, by58, zt58, sz61, by61, zt61, sz65, by65, zt65, sz72, by72, zt72, Try.underlying3, Try.underlying4, Try.underlying22, Try.underlying24, Try.underlying25, Try.underlying34, Try.underlying38, Try.underlying45, Try.underlying47, Try.underlying49, Try.underlying52, Try.underlying55, Try.underlying58, Try.underlying61, Try.underlying65, Try.underlying72])
        | (refine awp_mix (by kernel_rfl) (by kernel_rfl) ?_; simp (config := {maxSteps := 400000}) (disch := omega) [wrapI, wrapU, List.getElem?_cons_zero, List.getElem?_nil, undef, aThen, aIn, aNoGoto, yv, aOps_nil, aOps_cons, aOp, aOpH, aMix_nil, aMix_cons, heapy, headN, aPure, aVal, aHeap, aEv, aBuilt, aLen, aMin, aMax, aBin, aUn, aConv, aLoad, aPart, aFieldAt, aIndexAt, aField, aIndex, aBuild, aBuildSlice, aParts, aFill, places, chunks, AV.cells, AV.one, AV.keyed, Value.oneCell', aStore, aMake, aAppend, aOld, aNew, putB, delB, get, St.E, St.put, dstOk, initEnv, aArgs, aResult, aResults, oneOf, keepE, frame, TypeDesc.isRow, sz3, by3, zt3, sz4, by4, zt4, sz22, by22, zt22, sz24, by24, zt24, sz25, by25, zt25, sz34, by34, zt34, sz38, by38, zt38, sz45, by45, zt45, sz47, by47, zt47, sz49, by49, sz52, by52, zt52, sz55, by55, zt55, sz58, by58, zt58, sz61, by61, zt61, sz65, by65, zt65, sz72, by72, zt72, Try.underlying3, Try.underlying4, Try.underlying22, Try.underlying24, Try.underlying25, Try.underlying34, Try.underlying38, Try.underlying45, Try.underlying47, Try.underlying49, Try.underlying52, Try.underlying55, Try.underlying58, Try.underlying61, Try.underlying65, Try.underlying72])
        | (refine awp_go (by assumption) [0, 1, 4, 5, 6, 7, 8, 9, 10, 12, 13, 14, 15, 16, 17, 18, 22, 47, 57, 65, 71, 77, 90, 94, 155] (by first | exact Nat.le_refl _ | exact Nat.le_add_right _ _ | (dsimp only; omega)) ?_; simp only [keepE, get, Nat.reduceEqDiff, if_true, if_false, reduceCtorEq])
        | refine awp_skip ?_
        | refine awp_exit ?_
        | refine awp_ret ?_
        | refine then_normal ?_
        | refine in_normal ?_
        | refine then_ret ?_
        | refine in_ret ?_
        | refine then_exit ?_
        | refine in_exit ?_
        | refine in_other (by decide) ?_
        | refine awp_condT rfl (by first | rfl | (simp; done) | (simp; omega)) ?_
        | refine awp_condF rfl (by first | rfl | (simp; done) | (simp; omega)) ?_))
    -- the pairs come in order
    refine awp_loop (fun k : Nat => ⟨[(5, .bool true), (8, dsl a), (10, dsl b), (12, .int (Nt.nz ps)), (16, .int (k + 1))], [], nx⟩) (fun m k => k ≤ 144 ∧ 144 - k ≤ m) 144 0 ⟨by omega, by omega⟩ (to_sub (Nat.le_refl _) (by simp [subE, undef, aThen, aIn, aNoGoto, yv, aOps_nil, aOps_cons, aOp, aOpH, aMix_nil, aMix_cons, heapy, headN, aPure, aVal, aHeap, aEv, aBuilt, aLen, aMin, aMax, aBin, aUn, aConv, aLoad, aPart, aFieldAt, aIndexAt, aField, aIndex, aBuild, aBuildSlice, aParts, aFill, places, chunks, AV.cells, AV.one, AV.keyed, Value.oneCell', aStore, aMake, aAppend, aOld, aNew, putB, delB, get, St.E, St.put, dstOk, initEnv, aArgs, aResult, aResults, oneOf, keepE, frame, TypeDesc.isRow, sz3, by3, zt3, sz4, by4, zt4, sz22, by22, zt22, sz24, by24, zt24, sz25, by25, zt25, sz34, by34, zt34, sz38, by38, zt38, sz45, by45, zt45, sz47, by47, zt47, sz49, by49, sz52, by52, zt52, sz55, by55, zt55, sz58, by58, zt58, sz61, by61, zt61, sz65, by65, zt65, sz72, by72, zt72, Try.underlying3, Try.underlying4, Try.underlying22, Try.underlying24, Try.underlying25, Try.underlying34, Try.underlying38, Try.underlying45, Try.underlying47, Try.underlying49, Try.underlying52, Try.underlying55, Try.underlying58, Try.underlying61, Try.underlying65, Try.underlying72]) (by simp [subH])) (fun m k ⟨hk, hm⟩ K hK => ?_)
    by_cases hlt2 : k + 1 < b.length
    · have hlt3 : k < b.length := by omega
      have h1 := List.pairwise_iff_getElem.1 hk2 k (k + 1) hlt3 hlt2 (by omega)
      have h2 := hk1 b[k] (List.getElem_mem hlt3)
      have h3 := hk1 b[k + 1] (List.getElem_mem hlt2)
      obtain ⟨⟨f1, t1, n1, d1⟩, hx⟩ : ∃ x, b[k] = x := ⟨_, rfl⟩
      obtain ⟨⟨f2, t2, n2, d2⟩, hy⟩ : ∃ x, b[k + 1] = x := ⟨_, rfl⟩
      rw [hx] at h1 h2
      rw [hy] at h1 h3
      unfold Nt.key at h1
      unfold Nt.Keyed at h2 h3
      simp only [gt_iff_lt] at h1 h2 h3
      obtain ⟨a1, e1⟩ : ∃ a, (if t1 < f1 then t1 else f1) = a := ⟨_, rfl⟩
      obtain ⟨c1, e2⟩ : ∃ a, (if f1 < t1 then t1 else f1) = a := ⟨_, rfl⟩
      obtain ⟨a2, e3⟩ : ∃ a, (if t2 < f2 then t2 else f2) = a := ⟨_, rfl⟩
      obtain ⟨c2, e4⟩ : ∃ a, (if f2 < t2 then t2 else f2) = a := ⟨_, rfl⟩
      rw [e1, e2, e3, e4] at h1
      have hb : 0 ≤ a1 ∧ a1 < 12 ∧ 0 ≤ c1 ∧ c1 < 12 ∧ 0 ≤ a2 ∧ a2 < 12 ∧ 0 ≤ c2 ∧ c2 < 12 := by
        subst e1; subst e2; subst e3; subst e4
        refine ⟨?_, ?_, ?_, ?_, ?_, ?_, ?_, ?_⟩ <;> split <;> omega
      have g1 : ¬ a2 < a1 := by omega
      by_cases g2 : a1 = a2
      · subst g2
        have g3 : ¬ c2 ≤ c1 := by omega
        (repeat (first
            | refine awp_seq (fun _ _ => ?_)
            | refine awp_block ?_
            | refine awp_scope ?_
            | (refine awp_region ?_; simp (config := {maxSteps := 400000}) (disch := omega) [wrapI, wrapU, List.getElem?_cons_zero, List.getElem?_nil, undef, aThen, aIn, aNoGoto, yv, aOps_nil, aOps_cons, aOp, aOpH, aMix_nil, aMix_cons, heapy, headN, aPure, aVal, aHeap, aEv, aBuilt, aLen, aMin, aMax, aBin, aUn, aConv, aLoad, aPart, aFieldAt, aIndexAt, aField, aIndex, aBuild, aBuildSlice, aParts, aFill, places, chunks, AV.cells, AV.one, AV.keyed, Value.oneCell', aStore, aMake, aAppend, aOld, aNew, putB, delB, get, St.E, St.put, dstOk, initEnv, aArgs, aResult, aResults, oneOf, keepE, frame, TypeDesc.isRow, sz3, by3, zt3, sz4, by4, zt4, sz22, by22, zt22, sz24, by24, zt24, sz25, by25, zt25, sz34, by34, zt34, sz38, by38, zt38, sz45, by45, zt45, sz47, by47, zt47, sz49, by49, sz52, by52, zt52, sz55, by55, zt55, sz58, by58, zt58, sz61, by61, zt61, sz65, by65, zt65, sz72, by72, zt72, Try.underlying3, Try.underlying4, Try.underlying22, Try.underlying24, Try.underlying25, Try.underlying34, Try.underlying38, Try.underlying45, Try.underlying47, Try.underlying49, Try.underlying52, Try.underlying55, Try.underlying58, Try.underlying61, Try.underlying65, Try.underlying72, hx, hy, e1, e2, e3, e4, g3])
            | (refine awp_mix (by kernel_rfl) (by kernel_rfl) ?_; simp (config := {maxSteps := 400000}) (disch := omega) [wrapI, wrapU, List.getElem?_cons_zero, List.getElem?_nil, undef, aThen, aIn, aNoGoto, yv, aOps_nil, aOps_cons, aOp, aOpH, aMix_nil, aMix_cons, heapy, headN, aPure, aVal, aHeap, aEv, aBuilt, aLen, aMin, aMax, aBin, aUn, aConv, aLoad, aPart, aFieldAt, aIndexAt, aField, aIndex, aBuild, aBuildSlice, aParts, aFill, places, chunks, AV.cells, AV.one, AV.keyed, Value.oneCell', aStore, aMake, aAppend, aOld, aNew, putB, delB, get, St.E, St.put, dstOk, initEnv, aArgs, aResult, aResults, oneOf, keepE, frame, TypeDesc.isRow, sz3, by3, zt3, sz4, by4, zt4, sz22, by22, zt22, sz24, by24, zt24, sz25, by25, zt25, sz34, by34, zt34, sz38, by38, zt38, sz45, by45, zt45, sz47, by47, zt47, sz49, by49, sz52, by52, zt52, sz55, by55, zt55, sz58, by58, zt58, sz61, by61, zt61, sz65, by65, zt65, sz72, by72, zt72, Try.underlying3, Try.underlying4, Try.underlying22, Try.underlying24, Try.underlying25, Try.underlying34, Try.underlying38, Try.underlying45, Try.underlying47, Try.underlying49, Try.underlying52, Try.underlying55, Try.underlying58, Try.underlying61, Try.underlying65, Try.underlying72, hx, hy, e1, e2, e3, e4, g3])
            | (refine awp_go (by assumption) [0, 1, 4, 5, 6, 7, 8, 9, 10, 12, 13, 14, 15, 16, 17, 18, 22, 47, 57, 65, 71, 77, 90, 94, 155] (by first | exact Nat.le_refl _ | exact Nat.le_add_right _ _ | (dsimp only; omega)) ?_; simp only [keepE, get, Nat.reduceEqDiff, if_true, if_false, reduceCtorEq])
            | refine awp_skip ?_
            | refine awp_exit ?_
            | refine awp_ret ?_
            | refine then_normal ?_
            | refine in_normal ?_
            | refine then_ret ?_
            | refine in_ret ?_
            | refine then_exit ?_
            | refine in_exit ?_
            | refine in_other (by decide) ?_
            | refine awp_condT rfl (by first | rfl | (simp [hx, hy, e1, e2, e3, e4, g3]; done) | (simp [hx, hy, e1, e2, e3, e4, g3]; omega)) ?_
            | refine awp_condF rfl (by first | rfl | (simp [hx, hy, e1, e2, e3, e4, g3]; done) | (simp [hx, hy, e1, e2, e3, e4, g3]; omega)) ?_))
        refine hK _ (m - 1) (k + 1) (by omega) ⟨by omega, by omega⟩ (to_sub (Nat.le_refl _) (by simp [subE, undef, aThen, aIn, aNoGoto, yv, aOps_nil, aOps_cons, aOp, aOpH, aMix_nil, aMix_cons, heapy, headN, aPure, aVal, aHeap, aEv, aBuilt, aLen, aMin, aMax, aBin, aUn, aConv, aLoad, aPart, aFieldAt, aIndexAt, aField, aIndex, aBuild, aBuildSlice, aParts, aFill, places, chunks, AV.cells, AV.one, AV.keyed, Value.oneCell', aStore, aMake, aAppend, aOld, aNew, putB, delB, get, St.E, St.put, dstOk, initEnv, aArgs, aResult, aResults, oneOf, keepE, frame, TypeDesc.isRow, sz3, by3, zt3, sz4, by4, zt4, sz22, by22, zt22, sz24, by24, zt24, sz25, by25, zt25, sz34, by34, zt34, sz38, by38, zt38, sz45, by45, zt45, sz47, by47, zt47, sz49, by49, sz52, by52, zt52, sz55, by55, zt55, sz58, by58, zt58, sz61, by61, zt61, sz65, by65, zt65, sz72, by72, zt72, Try.underlying3, Try.underlying4, Try.underlying22, Try.underlying24, Try.underlying25, Try.underlying34, Try.underlying38, Try.underlying45, Try.underlying47, Try.underlying49, Try.underlying52, Try.underlying55, Try.underlying58, Try.underlying61, Try.underlying65, Try.underlying72]) (by simp [subH]))
      · (repeat (first
            | refine awp_seq (fun _ _ => ?_)
            | refine awp_block ?_
            | refine awp_scope ?_
            | (refine awp_region ?_; simp (config := {maxSteps := 400000}) (disch := omega) [wrapI, wrapU, List.getElem?_cons_zero, List.getElem?_nil, undef, aThen, aIn, aNoGoto, yv, aOps_nil, aOps_cons, aOp, aOpH, aMix_nil, aMix_cons, heapy, headN, aPure, aVal, aHeap, aEv, aBuilt, aLen, aMin, aMax, aBin, aUn, aConv, aLoad, aPart, aFieldAt, aIndexAt, aField, aIndex, aBuild, aBuildSlice, aParts, aFill, places, chunks, AV.cells, AV.one, AV.keyed, Value.oneCell', aStore, aMake, aAppend, aOld, aNew, putB, delB, get, St.E, St.put, dstOk, initEnv, aArgs, aResult, aResults, oneOf, keepE, frame, TypeDesc.isRow, sz3, by3, zt3, sz4, by4, zt4, sz22, by22, zt22, sz24, by24, zt24, sz25, by25, zt25, sz34, by34, zt34, sz38, by38, zt38, sz45, by45, zt45, sz47, by47, zt47, sz49, by49, sz52, by52, zt52, sz55, by55, zt55, sz58, by58, zt58, sz61, by61, zt61, sz65, by65, zt65, sz72, by72, zt72, Try.underlying3, Try.underlying4, Try.underlying22, Try.underlying24, Try.underlying25, Try.underlying34, Try.underlying38, Try.underlying45, Try.underlying47, Try.underlying49, Try.underlying52, Try.underlying55, Try.underlying58, Try.underlying61, Try.underlying65, Try.underlying72, hx, hy, e1, e2, e3, e4, g1, g2])
            | (refine awp_mix (by kernel_rfl) (by kernel_rfl) ?_; simp (config := {maxSteps := 400000}) (disch := omega) [wrapI, wrapU, List.getElem?_cons_zero, List.getElem?_nil, undef, aThen, aIn, aNoGoto, yv, aOps_nil, aOps_cons, aOp, aOpH, aMix_nil, aMix_cons, heapy, headN, aPure, aVal, aHeap, aEv, aBuilt, aLen, aMin, aMax, aBin, aUn, aConv, aLoad, aPart, aFieldAt, aIndexAt, aField, aIndex, aBuild, aBuildSlice, aParts, aFill, places, chunks, AV.cells, AV.one, AV.keyed, Value.oneCell', aStore, aMake, aAppend, aOld, aNew, putB, delB, get, St.E, St.put, dstOk, initEnv, aArgs, aResult, aResults, oneOf, keepE, frame, TypeDesc.isRow, sz3, by3, zt3, sz4, by4, zt4, sz22, by22, zt22, sz24, by24, zt24, sz25, by25, zt25, sz34, by34, zt34, sz38, by38, zt38, sz45, by45, zt45, sz47, by47, zt47, sz49, by49, sz52, by52, zt52, sz55, by55, zt55, sz58, by58, zt58, sz61, by61, zt61, sz65, by65, zt65, sz72, by72, zt72, Try.underlying3, Try.underlying4, Try.underlying22, Try.underlying24, Try.underlying25, Try.underlying34, Try.underlying38, Try.underlying45, Try.underlying47, Try.underlying49, Try.underlying52, Try.underlying55, Try.underlying58, Try.underlying61, Try.underlying65, Try.underlying72, hx, hy, e1, e2, e3, e4, g1, g2])
            | (refine awp_go (by assumption) [0, 1, 4, 5, 6, 7, 8, 9, 10, 12, 13, 14, 15, 16, 17, 18, 22, 47, 57, 65, 71, 77, 90, 94, 155] (by first | exact Nat.le_refl _ | exact Nat.le_add_right _ _ | (dsimp only; omega)) ?_; simp only [keepE, get, Nat.reduceEqDiff, if_true, if_false, reduceCtorEq])
            | refine awp_skip ?_
            | refine awp_exit ?_
            | refine awp_ret ?_
            | refine then_normal ?_
            | refine in_normal ?_
            | refine then_ret ?_
            | refine in_ret ?_
            | refine then_exit ?_
            | refine in_exit ?_
            | refine in_other (by decide) ?_
            | refine awp_condT rfl (by first | rfl | (simp [hx, hy, e1, e2, e3, e4, g1, g2]; done) | (simp [hx, hy, e1, e2, e3, e4, g1, g2]; omega)) ?_
            | refine awp_condF rfl (by first | rfl | (simp [hx, hy, e1, e2, e3, e4, g1, g2]; done) | (simp [hx, hy, e1, e2, e3, e4, g1, g2]; omega)) ?_))
        refine hK _ (m - 1) (k + 1) (by omega) ⟨by omega, by omega⟩ (to_sub (Nat.le_refl _) (by simp [subE, undef, aThen, aIn, aNoGoto, yv, aOps_nil, aOps_cons, aOp, aOpH, aMix_nil, aMix_cons, heapy, headN, aPure, aVal, aHeap, aEv, aBuilt, aLen, aMin, aMax, aBin, aUn, aConv, aLoad, aPart, aFieldAt, aIndexAt, aField, aIndex, aBuild, aBuildSlice, aParts, aFill, places, chunks, AV.cells, AV.one, AV.keyed, Value.oneCell', aStore, aMake, aAppend, aOld, aNew, putB, delB, get, St.E, St.put, dstOk, initEnv, aArgs, aResult, aResults, oneOf, keepE, frame, TypeDesc.isRow, sz3, by3, zt3, sz4, by4, zt4, sz22, by22, zt22, sz24, by24, zt24, sz25, by25, zt25, sz34, by34, zt34, sz38, by38, zt38, sz45, by45, zt45, sz47, by47, zt47, sz49, by49, sz52, by52, zt52, sz55, by55, zt55, sz58, by58, zt58, sz61, by61, zt61, sz65, by65, zt65, sz72, by72, zt72, Try.underlying3, Try.underlying4, Try.underlying22, Try.underlying24, Try.underlying25, Try.underlying34, Try.underlying38, Try.underlying45, Try.underlying47, Try.underlying49, Try.underlying52, Try.underlying55, Try.underlying58, Try.underlying61, Try.underlying65, Try.underlying72]) (by simp [subH]))
    · rcases hfew with hfew | ⟨rfl, h0⟩
      · (repeat (first
            | refine awp_seq (fun _ _ => ?_)
            | refine awp_block ?_
            | refine awp_scope ?_
            | (refine awp_region ?_; simp (config := {maxSteps := 400000}) (disch := omega) [wrapI, wrapU, List.getElem?_cons_zero, List.getElem?_nil, undef, aThen, aIn, aNoGoto, yv, aOps_nil, aOps_cons, aOp, aOpH, aMix_nil, aMix_cons, heapy, headN, aPure, aVal, aHeap, aEv, aBuilt, aLen, aMin, aMax, aBin, aUn, aConv, aLoad, aPart, aFieldAt, aIndexAt, aField, aIndex, aBuild, aBuildSlice, aParts, aFill, places, chunks, AV.cells, AV.one, AV.keyed, Value.oneCell', aStore, aMake, aAppend, aOld, aNew, putB, delB, get, St.E, St.put, dstOk, initEnv, aArgs, aResult, aResults, oneOf, keepE, frame, TypeDesc.isRow, sz3, by3, zt3, sz4, by4, zt4, sz22, by22, zt22, sz24, by24, zt24, sz25, by25, zt25, sz34, by34, zt34, sz38, by38, zt38, sz45, by45, zt45, sz47, by47, zt47, sz49, by49, sz52, by52, zt52, sz55, by55, zt55, sz58, by58, zt58, sz61, by61, zt61, sz65, by65, zt65, sz72, by72, zt72, Try.underlying3, Try.underlying4, Try.underlying22, Try.underlying24, Try.underlying25, Try.underlying34, Try.underlying38, Try.underlying45, Try.underlying47, Try.underlying49, Try.underlying52, Try.underlying55, Try.underlying58, Try.underlying61, Try.underlying65, Try.underlying72, hfew])
            | (refine awp_mix (by kernel_rfl) (by kernel_rfl) ?_; simp (config := {maxSteps := 400000}) (disch := omega) [wrapI, wrapU, List.getElem?_cons_zero, List.getElem?_nil, undef, aThen, aIn, aNoGoto, yv, aOps_nil, aOps_cons, aOp, aOpH, aMix_nil, aMix_cons, heapy, headN, aPure, aVal, aHeap, aEv, aBuilt, aLen, aMin, aMax, aBin, aUn, aConv, aLoad, aPart, aFieldAt, aIndexAt, aField, aIndex, aBuild, aBuildSlice, aParts, aFill, places, chunks, AV.cells, AV.one, AV.keyed, Value.oneCell', aStore, aMake, aAppend, aOld, aNew, putB, delB, get, St.E, St.put, dstOk, initEnv, aArgs, aResult, aResults, oneOf, keepE, frame, TypeDesc.isRow, sz3, by3, zt3, sz4, by4, zt4, sz22, by22, zt22, sz24, by24, zt24, sz25, by25, zt25, sz34, by34, zt34, sz38, by38, zt38, sz45, by45, zt45, sz47, by47, zt47, sz49, by49, sz52, by52, zt52, sz55, by55, zt55, sz58, by58, zt58, sz61, by61, zt61, sz65, by65, zt65, sz72, by72, zt72, Try.underlying3, Try.underlying4, Try.underlying22, Try.underlying24, Try.underlying25, Try.underlying34, Try.underlying38, Try.underlying45, Try.underlying47, Try.underlying49, Try.underlying52, Try.underlying55, Try.underlying58, Try.underlying61, Try.underlying65, Try.underlying72, hfew])
            | (refine awp_go (by assumption) [0, 1, 4, 5, 6, 7, 8, 9, 10, 12, 13, 14, 15, 16, 17, 18, 22, 47, 57, 65, 71, 77, 90, 94, 155] (by first | exact Nat.le_refl _ | exact Nat.le_add_right _ _ | (dsimp only; omega)) ?_; simp only [keepE, get, Nat.reduceEqDiff, if_true, if_false, reduceCtorEq])
            | refine awp_skip ?_
            | refine awp_exit ?_
            | refine awp_ret ?_
            | refine then_normal ?_
            | refine in_normal ?_
            | refine then_ret ?_
            | refine in_ret ?_
            | refine then_exit ?_
            | refine in_exit ?_
            | refine in_other (by decide) ?_
            | refine awp_condT rfl (by first | rfl | (simp [hfew]; done) | (simp [hfew]; omega)) ?_
            | refine awp_condF rfl (by first | rfl | (simp [hfew]; done) | (simp [hfew]; omega)) ?_))
        try simp [aRet, subH, undef, aThen, aIn, aNoGoto, yv, aOps_nil, aOps_cons, aOp, aOpH, aMix_nil, aMix_cons, heapy, headN, aPure, aVal, aHeap, aEv, aBuilt, aLen, aMin, aMax, aBin, aUn, aConv, aLoad, aPart, aFieldAt, aIndexAt, aField, aIndex, aBuild, aBuildSlice, aParts, aFill, places, chunks, AV.cells, AV.one, AV.keyed, Value.oneCell', aStore, aMake, aAppend, aOld, aNew, putB, delB, get, St.E, St.put, dstOk, initEnv, aArgs, aResult, aResults, oneOf, keepE, frame, TypeDesc.isRow, sz3, by3, zt3, sz4, by4, zt4, sz22, by22, zt22, sz24, by24, zt24, sz25, by25, zt25, sz34, by34, zt34, sz38, by38, zt38, sz45, by45, zt45, sz47, by47, zt47, sz49, by49, sz52, by52, zt52, sz55, by55, zt55, sz58, by58, zt58, sz61, by61, zt61, sz65, by65, zt65, sz72, by72, zt72, Try.underlying3, Try.underlying4, Try.underlying22, Try.underlying24, Try.underlying25, Try.underlying34, Try.underlying38, Try.underlying45, Try.underlying47, Try.underlying49, Try.underlying52, Try.underlying55, Try.underlying58, Try.underlying61, Try.underlying65, Try.underlying72]
      · (repeat (first
            | refine awp_seq (fun _ _ => ?_)
            | refine awp_block ?_
            | refine awp_scope ?_
            | (refine awp_region ?_; simp (config := {maxSteps := 400000}) (disch := omega) [wrapI, wrapU, List.getElem?_cons_zero, List.getElem?_nil, undef, aThen, aIn, aNoGoto, yv, aOps_nil, aOps_cons, aOp, aOpH, aMix_nil, aMix_cons, heapy, headN, aPure, aVal, aHeap, aEv, aBuilt, aLen, aMin, aMax, aBin, aUn, aConv, aLoad, aPart, aFieldAt, aIndexAt, aField, aIndex, aBuild, aBuildSlice, aParts, aFill, places, chunks, AV.cells, AV.one, AV.keyed, Value.oneCell', aStore, aMake, aAppend, aOld, aNew, putB, delB, get, St.E, St.put, dstOk, initEnv, aArgs, aResult, aResults, oneOf, keepE, frame, TypeDesc.isRow, sz3, by3, zt3, sz4, by4, zt4, sz22, by22, zt22, sz24, by24, zt24, sz25, by25, zt25, sz34, by34, zt34, sz38, by38, zt38, sz45, by45, zt45, sz47, by47, zt47, sz49, by49, sz52, by52, zt52, sz55, by55, zt55, sz58, by58, zt58, sz61, by61, zt61, sz65, by65, zt65, sz72, by72, zt72, Try.underlying3, Try.underlying4, Try.underlying22, Try.underlying24, Try.underlying25, Try.underlying34, Try.underlying38, Try.underlying45, Try.underlying47, Try.underlying49, Try.underlying52, Try.underlying55, Try.underlying58, Try.underlying61, Try.underlying65, Try.underlying72, h0])
            | (refine awp_mix (by kernel_rfl) (by kernel_rfl) ?_; simp (config := {maxSteps := 400000}) (disch := omega) [wrapI, wrapU, List.getElem?_cons_zero, List.getElem?_nil, undef, aThen, aIn, aNoGoto, yv, aOps_nil, aOps_cons, aOp, aOpH, aMix_nil, aMix_cons, heapy, headN, aPure, aVal, aHeap, aEv, aBuilt, aLen, aMin, aMax, aBin, aUn, aConv, aLoad, aPart, aFieldAt, aIndexAt, aField, aIndex, aBuild, aBuildSlice, aParts, aFill, places, chunks, AV.cells, AV.one, AV.keyed, Value.oneCell', aStore, aMake, aAppend, aOld, aNew, putB, delB, get, St.E, St.put, dstOk, initEnv, aArgs, aResult, aResults, oneOf, keepE, frame, TypeDesc.isRow, sz3, by3, zt3, sz4, by4, zt4, sz22, by22, zt22, sz24, by24, zt24, sz25, by25, zt25, sz34, by34, zt34, sz38, by38, zt38, sz45, by45, zt45, sz47, by47, zt47, sz49, by49, sz52, by52, zt52, sz55, by55, zt55, sz58, by58, zt58, sz61, by61, zt61, sz65, by65, zt65, sz72, by72, zt72, Try.underlying3, Try.underlying4, Try.underlying22, Try.underlying24, Try.underlying25, Try.underlying34, Try.underlying38, Try.underlying45, Try.underlying47, Try.underlying49, Try.underlying52, Try.underlying55, Try.underlying58, Try.underlying61, Try.underlying65, Try.underlying72, h0])
            | (refine awp_go (by assumption) [0, 1, 4, 5, 6, 7, 8, 9, 10, 12, 13, 14, 15, 16, 17, 18, 22, 47, 57, 65, 71, 77, 90, 94, 155] (by first | exact Nat.le_refl _ | exact Nat.le_add_right _ _ | (dsimp only; omega)) ?_; simp only [keepE, get, Nat.reduceEqDiff, if_true, if_false, reduceCtorEq])
            | refine awp_skip ?_
            | refine awp_exit ?_
            | refine awp_ret ?_
            | refine then_normal ?_
            | refine in_normal ?_
            | refine then_ret ?_
            | refine in_ret ?_
            | refine then_exit ?_
            | refine in_exit ?_
            | refine in_other (by decide) ?_
            | refine awp_condT rfl (by first | rfl | (simp [h0]; done) | (simp [h0]; omega)) ?_
            | refine awp_condF rfl (by first | rfl | (simp [h0]; done) | (simp [h0]; omega)) ?_))
        try simp [aRet, subH, undef, aThen, aIn, aNoGoto, yv, aOps_nil, aOps_cons, aOp, aOpH, aMix_nil, aMix_cons, heapy, headN, aPure, aVal, aHeap, aEv, aBuilt, aLen, aMin, aMax, aBin, aUn, aConv, aLoad, aPart, aFieldAt, aIndexAt, aField, aIndex, aBuild, aBuildSlice, aParts, aFill, places, chunks, AV.cells, AV.one, AV.keyed, Value.oneCell', aStore, aMake, aAppend, aOld, aNew, putB, delB, get, St.E, St.put, dstOk, initEnv, aArgs, aResult, aResults, oneOf, keepE, frame, TypeDesc.isRow, sz3, by3, zt3, sz4, by4, zt4, sz22, by22, zt22, sz24, by24, zt24, sz25, by25, zt25, sz34, by34, zt34, sz38, by38, zt38, sz45, by45, zt45, sz47, by47, zt47, sz49, by49, sz52, by52, zt52, sz55, by55, zt55, sz58, by58, zt58, sz61, by61, zt61, sz65, by65, zt65, sz72, by72, zt72, Try.underlying3, Try.underlying4, Try.underlying22, Try.underlying24, Try.underlying25, Try.underlying34, Try.underlying38, Try.underlying45, Try.underlying47, Try.underlying49, Try.underlying52, Try.underlying55, Try.underlying58, Try.underlying61, Try.underlying65, Try.underlying72]
end Go.Proofs.Ytgggekjhfdkgkaa.Ab
