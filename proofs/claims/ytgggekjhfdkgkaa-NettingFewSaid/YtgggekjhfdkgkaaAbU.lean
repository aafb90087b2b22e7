/- Small functions of netting, run abstractly. -/
import Derived.Test.YtgggekjhfdkgkaaAbT
import Derived.Test.YtgggekjhfdkgkaaNetT
import Derived.Laws.StructEq
namespace Go.Proofs.Ytgggekjhfdkgkaa.Ab
open Go Go.RowKit Go.Shelf
theorem wrapI (n : Int) (h1 : -9223372036854775808 ≤ n) (h2 : n ≤ 9223372036854775807) : IntKind.i64.wrap n = n := by rw [IntKind.wrap_i64]; omega
theorem wrapU (n : Int) (h1 : 0 ≤ n) (h2 : n ≤ 18446744073709551615) : IntKind.u64.wrap n = n := by rw [IntKind.wrap_u64]; omega
theorem rep_s {w : World} {S : Nat → Prop} {m : Nat → Nat × Nat} {nx : Nat} {u v : Value} (h : Rep w S m nx (.s u) v) : v = u := by cases h; rfl
theorem rep_agg {w : World} {S : Nat → Prop} {m : Nat → Nat × Nat} {nx : Nat} (l : List Value) {v : Value} (h : Rep w S m nx (.agg (l.map .s)) v) : v = .agg l.toArray := by
  cases h with
  | agg vs hl h =>
    congr 1
    apply Array.ext (by simpa using hl.symm)
    intro i h1 h2
    have h3 : i < l.length := by simpa using h2
    have := h i (.s l[i]) vs[i] (by simp [h3]) (by simp [h1])
    rw [rep_s this]; simp
abbrev dcs (x : Nt.Debt) : List AV := [.int x.f, .int x.t, .int x.n, .int x.d]
abbrev dav (x : Nt.Debt) : AV := .agg (dcs x)
abbrev dsl (l : List Nt.Debt) : AV := .sl 4 (l.map dcs)
abbrev rcs (x : Rat) : List AV := [.int x.num, .int x.den]
abbrev rav (x : Rat) : AV := .agg (rcs x)
abbrev rsl (l : List Rat) : AV := .sl 2 (l.map rcs)
theorem debt_spec (f t n d : Int) (nx : Nat) : Spec Try.prog 25 [.int f, .int t, .int n, .int d] [] nx (dav ⟨f, t, n, d⟩) [] nx := by
  refine spec_of_awp Try.func25 (by kernel_rfl) rfl Try.ntmps25 (by rw [Try.results25]) (by simp) ?_; simp only [initEnv, Nat.zero_add, Nat.reduceAdd]
  (repeat (first
      | refine awp_seq (fun _ _ => ?_)
      | refine awp_block ?_
      | refine awp_scope ?_
      | (refine awp_region ?_; simp (config := {maxSteps := 400000}) (disch := omega) [wrapI, wrapU, List.getElem?_cons_zero, List.getElem?_nil, undef, aThen, aIn, aNoGoto, yv, aOps_nil, aOps_cons, aOp, aOpH, aMix_nil, aMix_cons, heapy, headN, aPure, aVal, aHeap, aEv, aBuilt, aLen, aMin, aMax, aBin, aUn, aConv, aLoad, aPart, aFieldAt, aIndexAt, aField, aIndex, aBuild, aBuildSlice, aParts, aFill, places, chunks, AV.cells, AV.one, AV.keyed, Value.oneCell', aStore, aMake, aAppend, aOld, aNew, putB, delB, get, St.E, St.put, dstOk, initEnv, aArgs, aResult, aResults, oneOf, keepE, frame, TypeDesc.isRow, sz3, by3, zt3, sz4, by4, zt4, sz22, by22, zt22, sz24, by24, zt24, sz25, by25, zt25, sz34, by34, zt34, sz38, by38, zt38, sz45, by45, zt45, sz47, by47, zt47, sz49, by49, sz52, by52, zt52, sz55, by55, zt55, sz58, by58, zt58, sz61, by61, zt61, sz65, by65, zt65, sz72, by72, zt72, Try.underlying3, Try.underlying4, Try.underlying22, Try.underlying24, Try.underlying25, Try.underlying34, Try.underlying38, Try.underlying45, Try.underlying47, Try.underlying49, Try.underlying52, Try.underlying55, Try.underlying58, Try.underlying61, Try.underlying65, Try.underlying72])
      | (refine awp_mix (by kernel_rfl) (by kernel_rfl) ?_; simp (config := {maxSteps := 400000}) (disch := omega) [wrapI, wrapU, List.getElem?_cons_zero, List.getElem?_nil, undef, aThen, aIn, aNoGoto, yv, aOps_nil, aOps_cons, aOp, aOpH, aMix_nil, aMix_cons, heapy, headN, aPure, aVal, aHeap, aEv, aBuilt, aLen, aMin, aMax, aBin, aUn, aConv, aLoad, aPart, aFieldAt, aIndexAt, aField, aIndex, aBuild, aBuildSlice, aParts, aFill, places, chunks, AV.cells, AV.one, AV.keyed, Value.oneCell', aStore, aMake, aAppend, aOld, aNew, putB, delB, get, St.E, St.put, dstOk, initEnv, aArgs, aResult, aResults, oneOf, keepE, frame, TypeDesc.isRow, sz3, by3, zt3, sz4, by4, zt4, sz22, by22, zt22, sz24, by24, zt24, sz25, by25, zt25, sz34, by34, zt34, sz38, by38, zt38, sz45, by45, zt45, sz47, by47, zt47, sz49, by49, sz52, by52, zt52, sz55, by55, zt55, sz58, by58, zt58, sz61, by61, zt61, sz65, by65, zt65, sz72, by72, zt72, Try.underlying3, Try.underlying4, Try.underlying22, Try.underlying24, Try.underlying25, Try.underlying34, Try.underlying38, Try.underlying45, Try.underlying47, Try.underlying49, Try.underlying52, Try.underlying55, Try.underlying58, Try.underlying61, Try.underlying65, Try.underlying72])
      | (refine awp_go (by assumption) [0, 1, 2, 3, 8] (by first | exact Nat.le_refl _ | exact Nat.le_add_right _ _ | (dsimp only; omega)) ?_; simp only [keepE, get, Nat.reduceEqDiff, if_true, if_false, reduceCtorEq])
      | refine awp_skip ?_
      | refine awp_exit ?_
      | refine awp_ret ?_
      | refine then_normal ?_
      | refine in_normal ?_
      | refine then_ret ?_
      | refine in_ret ?_
      | refine then_exit ?_
      | refine in_exit ?_
      | refine in_other (by decide) ?_
      | refine awp_condT rfl (by first | rfl | (simp; done) | (simp; omega)) ?_
      | refine awp_condF rfl (by first | rfl | (simp; done) | (simp; omega)) ?_))
  simp [aRet, subH, undef, aThen, aIn, aNoGoto, yv, aOps_nil, aOps_cons, aOp, aOpH, aMix_nil, aMix_cons, heapy, headN, aPure, aVal, aHeap, aEv, aBuilt, aLen, aMin, aMax, aBin, aUn, aConv, aLoad, aPart, aFieldAt, aIndexAt, aField, aIndex, aBuild, aBuildSlice, aParts, aFill, places, chunks, AV.cells, AV.one, AV.keyed, Value.oneCell', aStore, aMake, aAppend, aOld, aNew, putB, delB, get, St.E, St.put, dstOk, initEnv, aArgs, aResult, aResults, oneOf, keepE, frame, TypeDesc.isRow, sz3, by3, zt3, sz4, by4, zt4, sz22, by22, zt22, sz24, by24, zt24, sz25, by25, zt25, sz34, by34, zt34, sz38, by38, zt38, sz45, by45, zt45, sz47, by47, zt47, sz49, by49, sz52, by52, zt52, sz55, by55, zt55, sz58, by58, zt58, sz61, by61, zt61, sz65, by65, zt65, sz72, by72, zt72, Try.underlying3, Try.underlying4, Try.underlying22, Try.underlying24, Try.underlying25, Try.underlying34, Try.underlying38, Try.underlying45, Try.underlying47, Try.underlying49, Try.underlying52, Try.underlying55, Try.underlying58, Try.underlying61, Try.underlying65, Try.underlying72]

theorem neq_debt (x y : Nt.Debt) : EqOk Try.prog .neq 38 (dav x) (dav y) (decide (x ≠ y)) := by
  intro w S m nx u v p q hu hv
  have e1 := rep_agg [.int .i64 x.f, .int .i64 x.t, .int .i64 x.n, .int .i64 x.d] hu
  have e2 := rep_agg [.int .i64 y.f, .int .i64 y.t, .int .i64 y.n, .int .i64 y.d] hv
  subst e1; subst e2
  clear hu hv
  obtain ⟨a, b, c, d⟩ := x
  obtain ⟨a', b', c', d'⟩ := y
  go_simp
  by_cases h1 : a = a' <;> by_cases h2 : b = b' <;> by_cases h3 : c = c' <;> by_cases h4 : d = d' <;> simp [h1, h2, h3, h4]
theorem neq_rat (x y : Rat) : EqOk Try.prog .neq 34 (rav x) (rav y) (decide (x ≠ y)) := by
  intro w S m nx u v p q hu hv
  have e1 := rep_agg [.int .i64 x.num, .int .i64 x.den] hu
  have e2 := rep_agg [.int .i64 y.num, .int .i64 y.den] hv
  subst e1; subst e2
  clear hu hv
  have hd : decide (x = y) = (decide (x.num = y.num) && decide ((x.den : Int) = y.den)) := by
    rw [Bool.eq_iff_iff]
    simp only [decide_eq_true_eq, Bool.and_eq_true]
    exact ⟨fun h => by subst h; exact ⟨rfl, rfl⟩, fun ⟨h1, h2⟩ => Rat.ext h1 (by omega)⟩
  have hD : decide (x ≠ y) = !(decide (x.num = y.num) && decide ((x.den : Int) = y.den)) := by rw [← hd]; simp
  rw [hD]
  generalize x.num = a at *
  generalize (x.den : Int) = b at *
  generalize y.num = a' at *
  generalize (y.den : Int) = b' at *
  clear hd hD
  go_simp
  by_cases h1 : a = a' <;> by_cases h2 : b = b' <;> simp [h1, h2]
theorem take_next {α : Type} {la lb : List α} {k : Nat} (h1 : k < la.length) (h2 : k < lb.length) (h : la.take k = lb.take k) (e : la[k] = lb[k]) : la.take (k + 1) = lb.take (k + 1) := by
  rw [List.take_succ_eq_append_getElem h1, List.take_succ_eq_append_getElem h2, h, e]
theorem same_spec (la lb : List Nt.Debt) (nx : Nat) (ha : la.length ≤ 1000000) : Spec Try.prog 19 [dsl la, dsl lb] [] nx (.bool (decide (la = lb))) [] nx := by
  by_cases hl : la.length = lb.length
  · refine spec_of_awp Try.func19 (by kernel_rfl) rfl Try.ntmps19 (by rw [Try.results19]) (by simp) ?_; simp only [initEnv, Nat.zero_add, Nat.reduceAdd]
    (repeat (first
        | refine awp_seq (fun _ _ => ?_)
        | refine awp_block ?_
        | refine awp_scope ?_
        | (refine awp_region ?_; simp (config := {maxSteps := 400000}) (disch := omega) [wrapI, wrapU, List.getElem?_cons_zero, List.getElem?_nil, undef, aThen, aIn, aNoGoto, yv, aOps_nil, aOps_cons, aOp, aOpH, aMix_nil, aMix_cons, heapy, headN, aPure, aVal, aHeap, aEv, aBuilt, aLen, aMin, aMax, aBin, aUn, aConv, aLoad, aPart, aFieldAt, aIndexAt, aField, aIndex, aBuild, aBuildSlice, aParts, aFill, places, chunks, AV.cells, AV.one, AV.keyed, Value.oneCell', aStore, aMake, aAppend, aOld, aNew, putB, delB, get, St.E, St.put, dstOk, initEnv, aArgs, aResult, aResults, oneOf, keepE, frame, TypeDesc.isRow, sz3, by3, zt3, sz4, by4, zt4, sz22, by22, zt22, sz24, by24, zt24, sz25, by25, zt25, sz34, by34, zt34, sz38, by38, zt38, sz45, by45, zt45, sz47, by47, zt47, sz49, by49, sz52, by52, zt52, sz55, by55, zt55, sz58, by58, zt58, sz61, by61, zt61, sz65, by65, zt65, sz72, by72, zt72, Try.underlying3, Try.underlying4, Try.underlying22, Try.underlying24, Try.underlying25, Try.underlying34, Try.underlying38, Try.underlying45, Try.underlying47, Try.underlying49, Try.underlying52, Try.underlying55, Try.underlying58, Try.underlying61, Try.underlying65, Try.underlying72])
        | (refine awp_mix (by kernel_rfl) (by kernel_rfl) ?_; simp (config := {maxSteps := 400000}) (disch := omega) [wrapI, wrapU, List.getElem?_cons_zero, List.getElem?_nil, undef, aThen, aIn, aNoGoto, yv, aOps_nil, aOps_cons, aOp, aOpH, aMix_nil, aMix_cons, heapy, headN, aPure, aVal, aHeap, aEv, aBuilt, aLen, aMin, aMax, aBin, aUn, aConv, aLoad, aPart, aFieldAt, aIndexAt, aField, aIndex, aBuild, aBuildSlice, aParts, aFill, places, chunks, AV.cells, AV.one, AV.keyed, Value.oneCell', aStore, aMake, aAppend, aOld, aNew, putB, delB, get, St.E, St.put, dstOk, initEnv, aArgs, aResult, aResults, oneOf, keepE, frame, TypeDesc.isRow, sz3, by3, zt3, sz4, by4, zt4, sz22, by22, zt22, sz24, by24, zt24, sz25, by25, zt25, sz34, by34, zt34, sz38, by38, zt38, sz45, by45, zt45, sz47, by47, zt47, sz49, by49, sz52, by52, zt52, sz55, by55, zt55, sz58, by58, zt58, sz61, by61, zt61, sz65, by65, zt65, sz72, by72, zt72, Try.underlying3, Try.underlying4, Try.underlying22, Try.underlying24, Try.underlying25, Try.underlying34, Try.underlying38, Try.underlying45, Try.underlying47, Try.underlying49, Try.underlying52, Try.underlying55, Try.underlying58, Try.underlying61, Try.underlying65, Try.underlying72])
        | (refine awp_go (by assumption) [0, 1, 4, 5, 10, 14, 25] (by first | exact Nat.le_refl _ | exact Nat.le_add_right _ _ | (dsimp only; omega)) ?_; simp only [keepE, get, Nat.reduceEqDiff, if_true, if_false, reduceCtorEq])
        | refine awp_skip ?_
        | refine awp_exit ?_
        | refine awp_ret ?_
        | refine then_normal ?_
        | refine in_normal ?_
        | refine then_ret ?_
        | refine in_ret ?_
        | refine then_exit ?_
        | refine in_exit ?_
        | refine in_other (by decide) ?_
        | refine awp_condT rfl (by first | rfl | (simp; done) | (simp; omega)) ?_
        | refine awp_condF rfl (by first | rfl | (simp; done) | (simp; omega)) ?_))
    refine awp_loop (fun k : Nat => ⟨[(0, dsl la), (1, dsl lb), (5, .int k)], [], nx⟩) (fun m k => k ≤ la.length ∧ la.length - k ≤ m ∧ la.take k = lb.take k) la.length 0 ⟨by omega, by omega, by simp⟩ (to_sub (Nat.le_refl _) (by simp [subE, undef, aThen, aIn, aNoGoto, yv, aOps_nil, aOps_cons, aOp, aOpH, aMix_nil, aMix_cons, heapy, headN, aPure, aVal, aHeap, aEv, aBuilt, aLen, aMin, aMax, aBin, aUn, aConv, aLoad, aPart, aFieldAt, aIndexAt, aField, aIndex, aBuild, aBuildSlice, aParts, aFill, places, chunks, AV.cells, AV.one, AV.keyed, Value.oneCell', aStore, aMake, aAppend, aOld, aNew, putB, delB, get, St.E, St.put, dstOk, initEnv, aArgs, aResult, aResults, oneOf, keepE, frame, TypeDesc.isRow, sz3, by3, zt3, sz4, by4, zt4, sz22, by22, zt22, sz24, by24, zt24, sz25, by25, zt25, sz34, by34, zt34, sz38, by38, zt38, sz45, by45, zt45, sz47, by47, zt47, sz49, by49, sz52, by52, zt52, sz55, by55, zt55, sz58, by58, zt58, sz61, by61, zt61, sz65, by65, zt65, sz72, by72, zt72, Try.underlying3, Try.underlying4, Try.underlying22, Try.underlying24, Try.underlying25, Try.underlying34, Try.underlying38, Try.underlying45, Try.underlying47, Try.underlying49, Try.underlying52, Try.underlying55, Try.underlying58, Try.underlying61, Try.underlying65, Try.underlying72]) (by simp [subH])) (fun m k ⟨hk, hm, ht⟩ K hK => ?_)
    by_cases hlt : k < la.length
    · have hlt2 : k < lb.length := by omega
      (repeat (first
          | refine awp_seq (fun _ _ => ?_)
          | refine awp_block ?_
          | refine awp_scope ?_
          | (refine awp_region ?_; simp (config := {maxSteps := 400000}) (disch := omega) [wrapI, wrapU, List.getElem?_cons_zero, List.getElem?_nil, undef, aThen, aIn, aNoGoto, yv, aOps_nil, aOps_cons, aOp, aOpH, aMix_nil, aMix_cons, heapy, headN, aPure, aVal, aHeap, aEv, aBuilt, aLen, aMin, aMax, aBin, aUn, aConv, aLoad, aPart, aFieldAt, aIndexAt, aField, aIndex, aBuild, aBuildSlice, aParts, aFill, places, chunks, AV.cells, AV.one, AV.keyed, Value.oneCell', aStore, aMake, aAppend, aOld, aNew, putB, delB, get, St.E, St.put, dstOk, initEnv, aArgs, aResult, aResults, oneOf, keepE, frame, TypeDesc.isRow, sz3, by3, zt3, sz4, by4, zt4, sz22, by22, zt22, sz24, by24, zt24, sz25, by25, zt25, sz34, by34, zt34, sz38, by38, zt38, sz45, by45, zt45, sz47, by47, zt47, sz49, by49, sz52, by52, zt52, sz55, by55, zt55, sz58, by58, zt58, sz61, by61, zt61, sz65, by65, zt65, sz72, by72, zt72, Try.underlying3, Try.underlying4, Try.underlying22, Try.underlying24, Try.underlying25, Try.underlying34, Try.underlying38, Try.underlying45, Try.underlying47, Try.underlying49, Try.underlying52, Try.underlying55, Try.underlying58, Try.underlying61, Try.underlying65, Try.underlying72])
          | (refine awp_mix (by kernel_rfl) (by kernel_rfl) ?_; simp (config := {maxSteps := 400000}) (disch := omega) [wrapI, wrapU, List.getElem?_cons_zero, List.getElem?_nil, undef, aThen, aIn, aNoGoto, yv, aOps_nil, aOps_cons, aOp, aOpH, aMix_nil, aMix_cons, heapy, headN, aPure, aVal, aHeap, aEv, aBuilt, aLen, aMin, aMax, aBin, aUn, aConv, aLoad, aPart, aFieldAt, aIndexAt, aField, aIndex, aBuild, aBuildSlice, aParts, aFill, places, chunks, AV.cells, AV.one, AV.keyed, Value.oneCell', aStore, aMake, aAppend, aOld, aNew, putB, delB, get, St.E, St.put, dstOk, initEnv, aArgs, aResult, aResults, oneOf, keepE, frame, TypeDesc.isRow, sz3, by3, zt3, sz4, by4, zt4, sz22, by22, zt22, sz24, by24, zt24, sz25, by25, zt25, sz34, by34, zt34, sz38, by38, zt38, sz45, by45, zt45, sz47, by47, zt47, sz49, by49, sz52, by52, zt52, sz55, by55, zt55, sz58, by58, zt58, sz61, by61, zt61, sz65, by65, zt65, sz72, by72, zt72, Try.underlying3, Try.underlying4, Try.underlying22, Try.underlying24, Try.underlying25, Try.underlying34, Try.underlying38, Try.underlying45, Try.underlying47, Try.underlying49, Try.underlying52, Try.underlying55, Try.underlying58, Try.underlying61, Try.underlying65, Try.underlying72])
          | (refine awp_go (by assumption) [0, 1, 4, 5, 10, 14, 25] (by first | exact Nat.le_refl _ | exact Nat.le_add_right _ _ | (dsimp only; omega)) ?_; simp only [keepE, get, Nat.reduceEqDiff, if_true, if_false, reduceCtorEq])
          | refine awp_skip ?_
          | refine awp_exit ?_
          | refine awp_ret ?_
          | refine then_normal ?_
          | refine in_normal ?_
          | refine then_ret ?_
          | refine in_ret ?_
          | refine then_exit ?_
          | refine in_exit ?_
          | refine in_other (by decide) ?_
          | refine awp_condT rfl (by first | rfl | (simp; done) | (simp; omega)) ?_
          | refine awp_condF rfl (by first | rfl | (simp; done) | (simp; omega)) ?_))
      refine cmp_is _ (neq_debt _ _) ?_
      (first | unfold aLock | unfold aLockM); simp (config := {maxSteps := 400000}) (disch := omega) [wrapI, wrapU, List.getElem?_cons_zero, List.getElem?_nil, undef, aThen, aIn, aNoGoto, yv, aOps_nil, aOps_cons, aOp, aOpH, aMix_nil, aMix_cons, heapy, headN, aPure, aVal, aHeap, aEv, aBuilt, aLen, aMin, aMax, aBin, aUn, aConv, aLoad, aPart, aFieldAt, aIndexAt, aField, aIndex, aBuild, aBuildSlice, aParts, aFill, places, chunks, AV.cells, AV.one, AV.keyed, Value.oneCell', aStore, aMake, aAppend, aOld, aNew, putB, delB, get, St.E, St.put, dstOk, initEnv, aArgs, aResult, aResults, oneOf, keepE, frame, TypeDesc.isRow, sz3, by3, zt3, sz4, by4, zt4, sz22, by22, zt22, sz24, by24, zt24, sz25, by25, zt25, sz34, by34, zt34, sz38, by38, zt38, sz45, by45, zt45, sz47, by47, zt47, sz49, by49, sz52, by52, zt52, sz55, by55, zt55, sz58, by58, zt58, sz61, by61, zt61, sz65, by65, zt65, sz72, by72, zt72, Try.underlying3, Try.underlying4, Try.underlying22, Try.underlying24, Try.underlying25, Try.underlying34, Try.underlying38, Try.underlying45, Try.underlying47, Try.underlying49, Try.underlying52, Try.underlying55, Try.underlying58, Try.underlying61, Try.underlying65, Try.underlying72]
      by_cases hxy : la[k] = lb[k]
      · (repeat (first
            | refine awp_seq (fun _ _ => ?_)
            | refine awp_block ?_
            | refine awp_scope ?_
            | (refine awp_region ?_; simp (config := {maxSteps := 400000}) (disch := omega) [wrapI, wrapU, List.getElem?_cons_zero, List.getElem?_nil, undef, aThen, aIn, aNoGoto, yv, aOps_nil, aOps_cons, aOp, aOpH, aMix_nil, aMix_cons, heapy, headN, aPure, aVal, aHeap, aEv, aBuilt, aLen, aMin, aMax, aBin, aUn, aConv, aLoad, aPart, aFieldAt, aIndexAt, aField, aIndex, aBuild, aBuildSlice, aParts, aFill, places, chunks, AV.cells, AV.one, AV.keyed, Value.oneCell', aStore, aMake, aAppend, aOld, aNew, putB, delB, get, St.E, St.put, dstOk, initEnv, aArgs, aResult, aResults, oneOf, keepE, frame, TypeDesc.isRow, sz3, by3, zt3, sz4, by4, zt4, sz22, by22, zt22, sz24, by24, zt24, sz25, by25, zt25, sz34, by34, zt34, sz38, by38, zt38, sz45, by45, zt45, sz47, by47, zt47, sz49, by49, sz52, by52, zt52, sz55, by55, zt55, sz58, by58, zt58, sz61, by61, zt61, sz65, by65, zt65, sz72, by72, zt72, Try.underlying3, Try.underlying4, Try.underlying22, Try.underlying24, Try.underlying25, Try.underlying34, Try.underlying38, Try.underlying45, Try.underlying47, Try.underlying49, Try.underlying52, Try.underlying55, Try.underlying58, Try.underlying61, Try.underlying65, Try.underlying72, hxy])
            | (refine awp_mix (by kernel_rfl) (by kernel_rfl) ?_; simp (config := {maxSteps := 400000}) (disch := omega) [wrapI, wrapU, List.getElem?_cons_zero, List.getElem?_nil, undef, aThen, aIn, aNoGoto, yv, aOps_nil, aOps_cons, aOp, aOpH, aMix_nil, aMix_cons, heapy, headN, aPure, aVal, aHeap, aEv, aBuilt, aLen, aMin, aMax, aBin, aUn, aConv, aLoad, aPart, aFieldAt, aIndexAt, aField, aIndex, aBuild, aBuildSlice, aParts, aFill, places, chunks, AV.cells, AV.one, AV.keyed, Value.oneCell', aStore, aMake, aAppend, aOld, aNew, putB, delB, get, St.E, St.put, dstOk, initEnv, aArgs, aResult, aResults, oneOf, keepE, frame, TypeDesc.isRow, sz3, by3, zt3, sz4, by4, zt4, sz22, by22, zt22, sz24, by24, zt24, sz25, by25, zt25, sz34, by34, zt34, sz38, by38, zt38, sz45, by45, zt45, sz47, by47, zt47, sz49, by49, sz52, by52, zt52, sz55, by55, zt55, sz58, by58, zt58, sz61, by61, zt61, sz65, by65, zt65, sz72, by72, zt72, Try.underlying3, Try.underlying4, Try.underlying22, Try.underlying24, Try.underlying25, Try.underlying34, Try.underlying38, Try.underlying45, Try.underlying47, Try.underlying49, Try.underlying52, Try.underlying55, Try.underlying58, Try.underlying61, Try.underlying65, Try.underlying72, hxy])
            | (refine awp_go (by assumption) [0, 1, 4, 5, 10, 14, 25] (by first | exact Nat.le_refl _ | exact Nat.le_add_right _ _ | (dsimp only; omega)) ?_; simp only [keepE, get, Nat.reduceEqDiff, if_true, if_false, reduceCtorEq])
            | refine awp_skip ?_
            | refine awp_exit ?_
            | refine awp_ret ?_
            | refine then_normal ?_
            | refine in_normal ?_
            | refine then_ret ?_
            | refine in_ret ?_
            | refine then_exit ?_
            | refine in_exit ?_
            | refine in_other (by decide) ?_
            | refine awp_condT rfl (by first | rfl | (simp [hxy]; done) | (simp [hxy]; omega)) ?_
            | refine awp_condF rfl (by first | rfl | (simp [hxy]; done) | (simp [hxy]; omega)) ?_))
        refine hK _ (m - 1) (k + 1) (by omega) ⟨by omega, by omega, take_next hlt hlt2 ht hxy⟩ (to_sub (Nat.le_refl _) (by simp [subE, undef, aThen, aIn, aNoGoto, yv, aOps_nil, aOps_cons, aOp, aOpH, aMix_nil, aMix_cons, heapy, headN, aPure, aVal, aHeap, aEv, aBuilt, aLen, aMin, aMax, aBin, aUn, aConv, aLoad, aPart, aFieldAt, aIndexAt, aField, aIndex, aBuild, aBuildSlice, aParts, aFill, places, chunks, AV.cells, AV.one, AV.keyed, Value.oneCell', aStore, aMake, aAppend, aOld, aNew, putB, delB, get, St.E, St.put, dstOk, initEnv, aArgs, aResult, aResults, oneOf, keepE, frame, TypeDesc.isRow, sz3, by3, zt3, sz4, by4, zt4, sz22, by22, zt22, sz24, by24, zt24, sz25, by25, zt25, sz34, by34, zt34, sz38, by38, zt38, sz45, by45, zt45, sz47, by47, zt47, sz49, by49, sz52, by52, zt52, sz55, by55, zt55, sz58, by58, zt58, sz61, by61, zt61, sz65, by65, zt65, sz72, by72, zt72, Try.underlying3, Try.underlying4, Try.underlying22, Try.underlying24, Try.underlying25, Try.underlying34, Try.underlying38, Try.underlying45, Try.underlying47, Try.underlying49, Try.underlying52, Try.underlying55, Try.underlying58, Try.underlying61, Try.underlying65, Try.underlying72]) (by simp [subH]))
      · (repeat (first
            | refine awp_seq (fun _ _ => ?_)
            | refine awp_block ?_
            | refine awp_scope ?_
            | (refine awp_region ?_; simp (config := {maxSteps := 400000}) (disch := omega) [wrapI, wrapU, List.getElem?_cons_zero, List.getElem?_nil, undef, aThen, aIn, aNoGoto, yv, aOps_nil, aOps_cons, aOp, aOpH, aMix_nil, aMix_cons, heapy, headN, aPure, aVal, aHeap, aEv, aBuilt, aLen, aMin, aMax, aBin, aUn, aConv, aLoad, aPart, aFieldAt, aIndexAt, aField, aIndex, aBuild, aBuildSlice, aParts, aFill, places, chunks, AV.cells, AV.one, AV.keyed, Value.oneCell', aStore, aMake, aAppend, aOld, aNew, putB, delB, get, St.E, St.put, dstOk, initEnv, aArgs, aResult, aResults, oneOf, keepE, frame, TypeDesc.isRow, sz3, by3, zt3, sz4, by4, zt4, sz22, by22, zt22, sz24, by24, zt24, sz25, by25, zt25, sz34, by34, zt34, sz38, by38, zt38, sz45, by45, zt45, sz47, by47, zt47, sz49, by49, sz52, by52, zt52, sz55, by55, zt55, sz58, by58, zt58, sz61, by61, zt61, sz65, by65, zt65, sz72, by72, zt72, Try.underlying3, Try.underlying4, Try.underlying22, Try.underlying24, Try.underlying25, Try.underlying34, Try.underlying38, Try.underlying45, Try.underlying47, Try.underlying49, Try.underlying52, Try.underlying55, Try.underlying58, Try.underlying61, Try.underlying65, Try.underlying72, hxy])
            | (refine awp_mix (by kernel_rfl) (by kernel_rfl) ?_; simp (config := {maxSteps := 400000}) (disch := omega) [wrapI, wrapU, List.getElem?_cons_zero, List.getElem?_nil, undef, aThen, aIn, aNoGoto, yv, aOps_nil, aOps_cons, aOp, aOpH, aMix_nil, aMix_cons, heapy, headN, aPure, aVal, aHeap, aEv, aBuilt, aLen, aMin, aMax, aBin, aUn, aConv, aLoad, aPart, aFieldAt, aIndexAt, aField, aIndex, aBuild, aBuildSlice, aParts, aFill, places, chunks, AV.cells, AV.one, AV.keyed, Value.oneCell', aStore, aMake, aAppend, aOld, aNew, putB, delB, get, St.E, St.put, dstOk, initEnv, aArgs, aResult, aResults, oneOf, keepE, frame, TypeDesc.isRow, sz3, by3, zt3, sz4, by4, zt4, sz22, by22, zt22, sz24, by24, zt24, sz25, by25, zt25, sz34, by34, zt34, sz38, by38, zt38, sz45, by45, zt45, sz47, by47, zt47, sz49, by49, sz52, by52, zt52, sz55, by55, zt55, sz58, by58, zt58, sz61, by61, zt61, sz65, by65, zt65, sz72, by72, zt72, Try.underlying3, Try.underlying4, Try.underlying22, Try.underlying24, Try.underlying25, Try.underlying34, Try.underlying38, Try.underlying45, Try.underlying47, Try.underlying49, Try.underlying52, Try.underlying55, Try.underlying58, Try.underlying61, Try.underlying65, Try.underlying72, hxy])
            | (refine awp_go (by assumption) [0, 1, 4, 5, 10, 14, 25] (by first | exact Nat.le_refl _ | exact Nat.le_add_right _ _ | (dsimp only; omega)) ?_; simp only [keepE, get, Nat.reduceEqDiff, if_true, if_false, reduceCtorEq])
            | refine awp_skip ?_
            | refine awp_exit ?_
            | refine awp_ret ?_
            | refine then_normal ?_
            | refine in_normal ?_
            | refine then_ret ?_
            | refine in_ret ?_
            | refine then_exit ?_
            | refine in_exit ?_
            | refine in_other (by decide) ?_
            | refine awp_condT rfl (by first | rfl | (simp [hxy]; done) | (simp [hxy]; omega)) ?_
            | refine awp_condF rfl (by first | rfl | (simp [hxy]; done) | (simp [hxy]; omega)) ?_))
        have hne : la ≠ lb := fun e => hxy (by subst e; rfl)
        simp [aRet, subH, hne, undef, aThen, aIn, aNoGoto, yv, aOps_nil, aOps_cons, aOp, aOpH, aMix_nil, aMix_cons, heapy, headN, aPure, aVal, aHeap, aEv, aBuilt, aLen, aMin, aMax, aBin, aUn, aConv, aLoad, aPart, aFieldAt, aIndexAt, aField, aIndex, aBuild, aBuildSlice, aParts, aFill, places, chunks, AV.cells, AV.one, AV.keyed, Value.oneCell', aStore, aMake, aAppend, aOld, aNew, putB, delB, get, St.E, St.put, dstOk, initEnv, aArgs, aResult, aResults, oneOf, keepE, frame, TypeDesc.isRow, sz3, by3, zt3, sz4, by4, zt4, sz22, by22, zt22, sz24, by24, zt24, sz25, by25, zt25, sz34, by34, zt34, sz38, by38, zt38, sz45, by45, zt45, sz47, by47, zt47, sz49, by49, sz52, by52, zt52, sz55, by55, zt55, sz58, by58, zt58, sz61, by61, zt61, sz65, by65, zt65, sz72, by72, zt72, Try.underlying3, Try.underlying4, Try.underlying22, Try.underlying24, Try.underlying25, Try.underlying34, Try.underlying38, Try.underlying45, Try.underlying47, Try.underlying49, Try.underlying52, Try.underlying55, Try.underlying58, Try.underlying61, Try.underlying65, Try.underlying72]
    · have hke : k = la.length := by omega
      subst hke
      (repeat (first
          | refine awp_seq (fun _ _ => ?_)
          | refine awp_block ?_
          | refine awp_scope ?_
          | (refine awp_region ?_; simp (config := {maxSteps := 400000}) (disch := omega) [wrapI, wrapU, List.getElem?_cons_zero, List.getElem?_nil, undef, aThen, aIn, aNoGoto, yv, aOps_nil, aOps_cons, aOp, aOpH, aMix_nil, aMix_cons, heapy, headN, aPure, aVal, aHeap, aEv, aBuilt, aLen, aMin, aMax, aBin, aUn, aConv, aLoad, aPart, aFieldAt, aIndexAt, aField, aIndex, aBuild, aBuildSlice, aParts, aFill, places, chunks, AV.cells, AV.one, AV.keyed, Value.oneCell', aStore, aMake, aAppend, aOld, aNew, putB, delB, get, St.E, St.put, dstOk, initEnv, aArgs, aResult, aResults, oneOf, keepE, frame, TypeDesc.isRow, sz3, by3, zt3, sz4, by4, zt4, sz22, by22, zt22, sz24, by24, zt24, sz25, by25, zt25, sz34, by34, zt34, sz38, by38, zt38, sz45, by45, zt45, sz47, by47, zt47, sz49, by49, sz52, by52, zt52, sz55, by55, zt55, sz58, by58, zt58, sz61, by61, zt61, sz65, by65, zt65, sz72, by72, zt72, Try.underlying3, Try.underlying4, Try.underlying22, Try.underlying24, Try.underlying25, Try.underlying34, Try.underlying38, Try.underlying45, Try.underlying47, Try.underlying49, Try.underlying52, Try.underlying55, Try.underlying58, Try.underlying61, Try.underlying65, Try.underlying72])
          | (refine awp_mix (by kernel_rfl) (by kernel_rfl) ?_; simp (config := {maxSteps := 400000}) (disch := omega) [wrapI, wrapU, List.getElem?_cons_zero, List.getElem?_nil, undef, aThen, aIn, aNoGoto, yv, aOps_nil, aOps_cons, aOp, aOpH, aMix_nil, aMix_cons, heapy, headN, aPure, aVal, aHeap, aEv, aBuilt, aLen, aMin, aMax, aBin, aUn, aConv, aLoad, aPart, aFieldAt, aIndexAt, aField, aIndex, aBuild, aBuildSlice, aParts, aFill, places, chunks, AV.cells, AV.one, AV.keyed, Value.oneCell', aStore, aMake, aAppend, aOld, aNew, putB, delB, get, St.E, St.put, dstOk, initEnv, aArgs, aResult, aResults, oneOf, keepE, frame, TypeDesc.isRow, sz3, by3, zt3, sz4, by4, zt4, sz22, by22, zt22, sz24, by24, zt24, sz25, by25, zt25, sz34, by34, zt34, sz38, by38, zt38, sz45, by45, zt45, sz47, by47, zt47, sz49, by49, sz52, by52, zt52, sz55, by55, zt55, sz58, by58, zt58, sz61, by61, zt61, sz65, by65, zt65, sz72, by72, zt72, Try.underlying3, Try.underlying4, Try.underlying22, Try.underlying24, Try.underlying25, Try.underlying34, Try.underlying38, Try.underlying45, Try.underlying47, Try.underlying49, Try.underlying52, Try.underlying55, Try.underlying58, Try.underlying61, Try.underlying65, Try.underlying72])
          | (refine awp_go (by assumption) [0, 1, 4, 5, 10, 14, 25] (by first | exact Nat.le_refl _ | exact Nat.le_add_right _ _ | (dsimp only; omega)) ?_; simp only [keepE, get, Nat.reduceEqDiff, if_true, if_false, reduceCtorEq])
          | refine awp_skip ?_
          | refine awp_exit ?_
          | refine awp_ret ?_
          | refine then_normal ?_
          | refine in_normal ?_
          | refine then_ret ?_
          | refine in_ret ?_
          | refine then_exit ?_
          | refine in_exit ?_
          | refine in_other (by decide) ?_
          | refine awp_condT rfl (by first | rfl | (simp; done) | (simp; omega)) ?_
          | refine awp_condF rfl (by first | rfl | (simp; done) | (simp; omega)) ?_))
      have he : la = lb := by rw [List.take_length, hl, List.take_length] at ht; exact ht
      simp [aRet, subH, he, undef, aThen, aIn, aNoGoto, yv, aOps_nil, aOps_cons, aOp, aOpH, aMix_nil, aMix_cons, heapy, headN, aPure, aVal, aHeap, aEv, aBuilt, aLen, aMin, aMax, aBin, aUn, aConv, aLoad, aPart, aFieldAt, aIndexAt, aField, aIndex, aBuild, aBuildSlice, aParts, aFill, places, chunks, AV.cells, AV.one, AV.keyed, Value.oneCell', aStore, aMake, aAppend, aOld, aNew, putB, delB, get, St.E, St.put, dstOk, initEnv, aArgs, aResult, aResults, oneOf, keepE, frame, TypeDesc.isRow, sz3, by3, zt3, sz4, by4, zt4, sz22, by22, zt22, sz24, by24, zt24, sz25, by25, zt25, sz34, by34, zt34, sz38, by38, zt38, sz45, by45, zt45, sz47, by47, zt47, sz49, by49, sz52, by52, zt52, sz55, by55, zt55, sz58, by58, zt58, sz61, by61, zt61, sz65, by65, zt65, sz72, by72, zt72, Try.underlying3, Try.underlying4, Try.underlying22, Try.underlying24, Try.underlying25, Try.underlying34, Try.underlying38, Try.underlying45, Try.underlying47, Try.underlying49, Try.underlying52, Try.underlying55, Try.underlying58, Try.underlying61, Try.underlying65, Try.underlying72]
  · have hne : la ≠ lb := fun e => hl (by rw [e])
    have hl' : (la.length : Int) ≠ lb.length := by omega
    refine spec_of_awp Try.func19 (by kernel_rfl) rfl Try.ntmps19 (by rw [Try.results19]) (by simp) ?_; simp only [initEnv, Nat.zero_add, Nat.reduceAdd]
    (repeat (first
        | refine awp_seq (fun _ _ => ?_)
        | refine awp_block ?_
        | refine awp_scope ?_
        | (refine awp_region ?_; simp (config := {maxSteps := 400000}) (disch := omega) [wrapI, wrapU, List.getElem?_cons_zero, List.getElem?_nil, undef, aThen, aIn, aNoGoto, yv, aOps_nil, aOps_cons, aOp, aOpH, aMix_nil, aMix_cons, heapy, headN, aPure, aVal, aHeap, aEv, aBuilt, aLen, aMin, aMax, aBin, aUn, aConv, aLoad, aPart, aFieldAt, aIndexAt, aField, aIndex, aBuild, aBuildSlice, aParts, aFill, places, chunks, AV.cells, AV.one, AV.keyed, Value.oneCell', aStore, aMake, aAppend, aOld, aNew, putB, delB, get, St.E, St.put, dstOk, initEnv, aArgs, aResult, aResults, oneOf, keepE, frame, TypeDesc.isRow, sz3, by3, zt3, sz4, by4, zt4, sz22, by22, zt22, sz24, by24, zt24, sz25, by25, zt25, sz34, by34, zt34, sz38, by38, zt38, sz45, by45, zt45, sz47, by47, zt47, sz49, by49, sz52, by52, zt52, sz55, by55, zt55, sz58, by58, zt58, sz61, by61, zt61, sz65, by65, zt65, sz72, by72, zt72, Try.underlying3, Try.underlying4, Try.underlying22, Try.underlying24, Try.underlying25, Try.underlying34, Try.underlying38, Try.underlying45, Try.underlying47, Try.underlying49, Try.underlying52, Try.underlying55, Try.underlying58, Try.underlying61, Try.underlying65, Try.underlying72, hl])
        | (refine awp_mix (by kernel_rfl) (by kernel_rfl) ?_; simp (config := {maxSteps := 400000}) (disch := omega) [wrapI, wrapU, List.getElem?_cons_zero, List.getElem?_nil, undef, aThen, aIn, aNoGoto, yv, aOps_nil, aOps_cons, aOp, aOpH, aMix_nil, aMix_cons, heapy, headN, aPure, aVal, aHeap, aEv, aBuilt, aLen, aMin, aMax, aBin, aUn, aConv, aLoad, aPart, aFieldAt, aIndexAt, aField, aIndex, aBuild, aBuildSlice, aParts, aFill, places, chunks, AV.cells, AV.one, AV.keyed, Value.oneCell', aStore, aMake, aAppend, aOld, aNew, putB, delB, get, St.E, St.put, dstOk, initEnv, aArgs, aResult, aResults, oneOf, keepE, frame, TypeDesc.isRow, sz3, by3, zt3, sz4, by4, zt4, sz22, by22, zt22, sz24, by24, zt24, sz25, by25, zt25, sz34, by34, zt34, sz38, by38, zt38, sz45, by45, zt45, sz47, by47, zt47, sz49, by49, sz52, by52, zt52, sz55, by55, zt55, sz58, by58, zt58, sz61, by61, zt61, sz65, by65, zt65, sz72, by72, zt72, Try.underlying3, Try.underlying4, Try.underlying22, Try.underlying24, Try.underlying25, Try.underlying34, Try.underlying38, Try.underlying45, Try.underlying47, Try.underlying49, Try.underlying52, Try.underlying55, Try.underlying58, Try.underlying61, Try.underlying65, Try.underlying72, hl])
        | (refine awp_go (by assumption) [0, 1, 4, 5, 10, 14, 25] (by first | exact Nat.le_refl _ | exact Nat.le_add_right _ _ | (dsimp only; omega)) ?_; simp only [keepE, get, Nat.reduceEqDiff, if_true, if_false, reduceCtorEq])
        | refine awp_skip ?_
        | refine awp_exit ?_
        | refine awp_ret ?_
        | refine then_normal ?_
        | refine in_normal ?_
        | refine then_ret ?_
        | refine in_ret ?_
        | refine then_exit ?_
        | refine in_exit ?_
        | refine in_other (by decide) ?_
        | refine awp_condT rfl (by first | rfl | (simp [hl]; done) | (simp [hl]; omega)) ?_
        | refine awp_condF rfl (by first | rfl | (simp [hl]; done) | (simp [hl]; omega)) ?_))
    simp [aRet, subH, hne, undef, aThen, aIn, aNoGoto, yv, aOps_nil, aOps_cons, aOp, aOpH, aMix_nil, aMix_cons, heapy, headN, aPure, aVal, aHeap, aEv, aBuilt, aLen, aMin, aMax, aBin, aUn, aConv, aLoad, aPart, aFieldAt, aIndexAt, aField, aIndex, aBuild, aBuildSlice, aParts, aFill, places, chunks, AV.cells, AV.one, AV.keyed, Value.oneCell', aStore, aMake, aAppend, aOld, aNew, putB, delB, get, St.E, St.put, dstOk, initEnv, aArgs, aResult, aResults, oneOf, keepE, frame, TypeDesc.isRow, sz3, by3, zt3, sz4, by4, zt4, sz22, by22, zt22, sz24, by24, zt24, sz25, by25, zt25, sz34, by34, zt34, sz38, by38, zt38, sz45, by45, zt45, sz47, by47, zt47, sz49, by49, sz52, by52, zt52, sz55, by55, zt55, sz58, by58, zt58, sz61, by61, zt61, sz65, by65, zt65, sz72, by72, zt72, Try.underlying3, Try.underlying4, Try.underlying22, Try.underlying24, Try.underlying25, Try.underlying34, Try.underlying38, Try.underlying45, Try.underlying47, Try.underlying49, Try.underlying52, Try.underlying55, Try.underlying58, Try.underlying61, Try.underlying65, Try.underlying72]
end Go.Proofs.Ytgggekjhfdkgkaa.Ab
