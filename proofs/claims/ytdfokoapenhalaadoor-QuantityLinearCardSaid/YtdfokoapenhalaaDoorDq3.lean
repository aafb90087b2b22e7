/- Functions of the program as plain functions (printed by wip/dec.py). -/
import Derived.Test.YtdfokoapenhalaaDoorDq2
namespace Go.Proofs.YtdfokoapenhalaaDoor.Ab
open Go Go.RowKit Go.Shelf
/-- estoppel/quantity.exact -/
def g_quantity_exact (a1 : D.Ratio) (a2 : D.Ratio) (a3 : D.Ratio) : Option (D.Ratio × Int) :=
  bindF (ρ := List Int × List Int) (
  loopO (σ := List Int × List Int × Int) (fun s_11005 =>
  if (decide (s_11005.2.2 < ([a1.Num, a2.Num, a3.Den].length : Int))) = true then
  loopO (σ := List Int × List Int × Int) (fun s_11679 =>
  if (decide (s_11679.2.2 < (s_11005.2.1.length : Int))) = true then
  (getI s_11679.1 s_11005.2.2).bind fun x_11767 =>
  (getI s_11679.2.1 s_11679.2.2).bind fun x_11771 =>
  (g_quantity_divisor x_11767 x_11771).bind fun x_11773 =>
  (getI s_11679.1 s_11005.2.2).bind fun x_11792 =>
  (quoO .i64 x_11792 x_11773).bind fun x_11796 =>
  (getI s_11679.1 s_11005.2.2).bind fun x_11800 =>
  (getI s_11679.2.1 s_11679.2.2).bind fun x_11804 =>
  (quoO .i64 x_11804 x_11773).bind fun x_11808 =>
  (getI s_11679.2.1 s_11679.2.2).bind fun x_11812 =>
  some (.inl ((setI s_11679.1 s_11005.2.2 x_11796), (setI s_11679.2.1 s_11679.2.2 x_11808), (IntKind.i64.wrap (s_11679.2.2 + 1))))
  else
  some (.inr (.inl (s_11679.1, s_11679.2.1, (IntKind.i64.wrap (s_11005.2.2 + 1)))))) (s_11005.1, s_11005.2.1, 0)
  else
  some (.inr (.inl (s_11005.1, s_11005.2.1)))) ([a1.Num, a2.Num, a3.Den], [a1.Den, a2.Den, a3.Num], 0)) (fun (e_9388 : List Int × List Int) =>
  bindF (ρ := D.Ratio × D.Ratio) (
  loopO (σ := D.Ratio × D.Ratio × Int) (fun s_12243 =>
  if (decide (s_12243.2.2 < (e_9388.1.length : Int))) = true then
  (getI e_9388.1 s_12243.2.2).bind fun x_12303 =>
  (g_ratio_Mul s_12243.1 (D.Ratio.mk x_12303 1)).bind fun x_12305 =>
  (getI e_9388.2 s_12243.2.2).bind fun x_12320 =>
  (g_ratio_Mul s_12243.2.1 (D.Ratio.mk 1 x_12320)).bind fun x_12322 =>
  bindF (ρ := Bool) (
  if (x_12305.2 != 0) = true then
  some (.inl true)
  else
  some (.inl (x_12322.2 != 0))) (fun (e_12325 : Bool) =>
  if e_12325 = true then
  some (.inr (.inr ((D.Ratio.mk 0 0), 2)))
  else
  some (.inl (x_12305.1, x_12322.1, (IntKind.i64.wrap (s_12243.2.2 + 1)))))
  else
  some (.inr (.inl (s_12243.1, s_12243.2.1)))) ((D.Ratio.mk 1 1), (D.Ratio.mk 1 1), 0)) (fun (e_12070 : D.Ratio × D.Ratio) =>
  (g_ratio_Mul e_12070.1 e_12070.2).bind fun x_12333 =>
  some (x_12333.1, x_12333.2)))
set_option maxHeartbeats 4000000 in
theorem g_quantity_exact_ok {a1 : D.Ratio} {a2 : D.Ratio} {a3 : D.Ratio} {res : D.Ratio × Int} (h : g_quantity_exact a1 a2 a3 = some res) : SpecK Tryd.prog [] 52 [.agg (cs_Ratio a1), .agg (cs_Ratio a2), .agg (cs_Ratio a3)] [] 0 (.tup [.agg (cs_Ratio res.1), I res.2]) [] 0 := by
  refine ⟨spec_of_wp Tryd.func52 (by kernel_rfl) rfl Tryd.ntmps52 (by rw [Tryd.results52]) (leB rfl) ?_, by kernel_rfl, trivial, by kernel_rfl, trivial, by kernel_rfl⟩
  unfold g_quantity_exact at h
  refine w_reg ⟨[(3, .ip (cs_Ratio a1)), (4, .ip (cs_Ratio a2)), (5, .ip (cs_Ratio a3)), (6, .ptr 0 0)], [(0, ⟨31, 0, [I 0, I 0]⟩)], 1⟩ (by kernel_rfl) (leB rfl) ?_
  refine w_regF [false, false, false, false, false, false, true, false, false, false, false, false, false, true, false, false] ⟨[(6, .ptr 0 0), (8, .own 7 [a1.Num, a2.Num, a3.Den].length), (9, .own 14 [a1.Den, a2.Den, a3.Num].length)], [(7, ⟨3, 1, flat cI [a1.Num, a2.Num, a3.Den]⟩), (14, ⟨3, 1, flat cI [a1.Den, a2.Den, a3.Num]⟩), (0, ⟨31, 0, [I 0, I 0]⟩)], 17⟩ (by kernel_rfl) (by kernel_rfl) (by kernel_rfl) (leB rfl) ?_
  refine w_assoc ?_
  refine w_reg ⟨[(6, .ptr 0 0), (8, .own 7 [a1.Num, a2.Num, a3.Den].length), (9, .own 14 [a1.Den, a2.Den, a3.Num].length), (33, I ([a1.Num, a2.Num, a3.Den].length : Int)), (34, I 0)], [(7, ⟨3, 1, flat cI [a1.Num, a2.Num, a3.Den]⟩), (14, ⟨3, 1, flat cI [a1.Den, a2.Den, a3.Num]⟩), (0, ⟨31, 0, [I 0, I 0]⟩)], 17⟩ (by kernel_rfl) (leB rfl) ?_
  refine w_cut h (fun (e_9388 : List Int × List Int) => ⟨[(6, .ptr 0 0), (8, sl 1 cI e_9388.1), (9, sl 1 cI e_9388.2)], [(0, ⟨31, 0, [I 0, I 0]⟩)], 1⟩) (fun o h h_9389 K hK_9390 => ?_) (fun e_9388 h => ?_)
  · refine w_block ?_
    refine w_loopO h (fun (s_11005 : List Int × List Int × Int) => ⟨[(6, .ptr 0 0), (8, .own 1 s_11005.1.length), (9, .own 2 s_11005.2.1.length), (33, I ([a1.Num, a2.Num, a3.Den].length : Int)), (34, I s_11005.2.2)], [(0, ⟨31, 0, [I 0, I 0]⟩), (1, ⟨3, 1, flat cI s_11005.1⟩), (2, ⟨3, 1, flat cI s_11005.2.1⟩)], 3⟩) (to_ren [(1, 7), (2, 14)] (leB rfl) (by kernel_rfl) (by kernel_rfl) (renE_of (by kernel_rfl) (by kernel_rfl)) ⟨reRn (by kernel_rfl) (leB rfl) (by kernel_rfl), ⟨rePl (by kernel_rfl) (leB rfl) (flat_all _ (fun _ => rfl) _), ⟨rePl (by kernel_rfl) (leB rfl) (flat_all _ (fun _ => rfl) _), trivial⟩⟩⟩) (fun s_11005 o h h_11006 K hK_11007 => ?_)
    · refine w_reg ⟨[(6, .ptr 0 0), (8, .own 1 s_11005.1.length), (9, .own 2 s_11005.2.1.length), (33, I ([a1.Num, a2.Num, a3.Den].length : Int)), (34, I s_11005.2.2), (35, B (decide (s_11005.2.2 < ([a1.Num, a2.Num, a3.Den].length : Int))))], [(0, ⟨31, 0, [I 0, I 0]⟩), (1, ⟨3, 1, flat cI s_11005.1⟩), (2, ⟨3, 1, flat cI s_11005.2.1⟩)], 3⟩ (by kernel_rfl) (leB rfl) ?_
      refine w_seq (fun K hK_11009 => ?_)
      refine w_ite h (by kernel_rfl) (fun h_11010 h => ?_) (fun h_11010 h => ?_)
      · refine w_skip ?_
        refine hK_11009 _ ⟨[(6, .ptr 0 0), (8, .own 1 s_11005.1.length), (9, .own 2 s_11005.2.1.length), (33, I ([a1.Num, a2.Num, a3.Den].length : Int)), (34, I s_11005.2.2)], [(0, ⟨31, 0, [I 0, I 0]⟩), (1, ⟨3, 1, flat cI s_11005.1⟩), (2, ⟨3, 1, flat cI s_11005.2.1⟩)], 3⟩ (to_trim (by kernel_rfl) (leB rfl)) ?_
        refine w_seq (fun K hK_11412 => ?_)
        refine w_block ?_
        refine w_reg ⟨[(6, .ptr 0 0), (8, .own 1 s_11005.1.length), (9, .own 2 s_11005.2.1.length), (10, I s_11005.2.2), (33, I ([a1.Num, a2.Num, a3.Den].length : Int)), (34, I s_11005.2.2)], [(0, ⟨31, 0, [I 0, I 0]⟩), (1, ⟨3, 1, flat cI s_11005.1⟩), (2, ⟨3, 1, flat cI s_11005.2.1⟩)], 3⟩ (by kernel_rfl) (leB rfl) ?_
        refine w_reg ⟨[(6, .ptr 0 0), (8, .own 1 s_11005.1.length), (9, .own 2 s_11005.2.1.length), (10, I s_11005.2.2), (33, I ([a1.Num, a2.Num, a3.Den].length : Int)), (34, I s_11005.2.2), (38, I (s_11005.2.1.length : Int)), (39, I 0)], [(0, ⟨31, 0, [I 0, I 0]⟩), (1, ⟨3, 1, flat cI s_11005.1⟩), (2, ⟨3, 1, flat cI s_11005.2.1⟩)], 3⟩ (by kernel_rfl) (leB rfl) ?_
        refine w_block ?_
        refine w_loopO h (fun (s_11679 : List Int × List Int × Int) => ⟨[(6, .ptr 0 0), (8, .own 1 s_11679.1.length), (9, .own 2 s_11679.2.1.length), (10, I s_11005.2.2), (33, I ([a1.Num, a2.Num, a3.Den].length : Int)), (34, I s_11005.2.2), (38, I (s_11005.2.1.length : Int)), (39, I s_11679.2.2)], [(0, ⟨31, 0, [I 0, I 0]⟩), (1, ⟨3, 1, flat cI s_11679.1⟩), (2, ⟨3, 1, flat cI s_11679.2.1⟩)], 3⟩) (to_ren [] (leB rfl) (by kernel_rfl) (by kernel_rfl) (renE_of (by kernel_rfl) (by kernel_rfl)) ⟨reRn (by kernel_rfl) (leB rfl) (by kernel_rfl), ⟨rePl (by kernel_rfl) (leB rfl) (flat_all _ (fun _ => rfl) _), ⟨rePl (by kernel_rfl) (leB rfl) (flat_all _ (fun _ => rfl) _), trivial⟩⟩⟩) (fun s_11679 o h h_11680 K hK_11681 => ?_)
        · refine w_reg ⟨[(6, .ptr 0 0), (8, .own 1 s_11679.1.length), (9, .own 2 s_11679.2.1.length), (10, I s_11005.2.2), (33, I ([a1.Num, a2.Num, a3.Den].length : Int)), (34, I s_11005.2.2), (38, I (s_11005.2.1.length : Int)), (39, I s_11679.2.2), (40, B (decide (s_11679.2.2 < (s_11005.2.1.length : Int))))], [(0, ⟨31, 0, [I 0, I 0]⟩), (1, ⟨3, 1, flat cI s_11679.1⟩), (2, ⟨3, 1, flat cI s_11679.2.1⟩)], 3⟩ (by kernel_rfl) (leB rfl) ?_
          refine w_seq (fun K hK_11683 => ?_)
          refine w_ite h (by kernel_rfl) (fun h_11684 h => ?_) (fun h_11684 h => ?_)
          · refine w_skip ?_
            refine hK_11683 _ ⟨[(6, .ptr 0 0), (8, .own 1 s_11679.1.length), (9, .own 2 s_11679.2.1.length), (10, I s_11005.2.2), (33, I ([a1.Num, a2.Num, a3.Den].length : Int)), (34, I s_11005.2.2), (38, I (s_11005.2.1.length : Int)), (39, I s_11679.2.2)], [(0, ⟨31, 0, [I 0, I 0]⟩), (1, ⟨3, 1, flat cI s_11679.1⟩), (2, ⟨3, 1, flat cI s_11679.2.1⟩)], 3⟩ (to_trim (by kernel_rfl) (leB rfl)) ?_
            refine w_seq (fun K hK_11749 => ?_)
            refine w_block ?_
            refine w_reg ⟨[(6, .ptr 0 0), (8, .own 1 s_11679.1.length), (9, .own 2 s_11679.2.1.length), (10, I s_11005.2.2), (11, I s_11679.2.2), (33, I ([a1.Num, a2.Num, a3.Den].length : Int)), (34, I s_11005.2.2), (38, I (s_11005.2.1.length : Int)), (39, I s_11679.2.2)], [(0, ⟨31, 0, [I 0, I 0]⟩), (1, ⟨3, 1, flat cI s_11679.1⟩), (2, ⟨3, 1, flat cI s_11679.2.1⟩)], 3⟩ (by kernel_rfl) (leB rfl) ?_
            refine w_seq (fun K hK_11764 => w_mix0 (by kernel_rfl) (by kernel_rfl) ?_)
            refine mm_run 0 2 rfl (by kernel_rfl) ?_
            obtain ⟨x_11767, h_11768, h⟩ := bind_some' h
            refine mm_one 2 (.indexAddr 81 (.tmp 42) (.tmp 43)) (some 44) (by kernel_rfl) (by kernel_rfl) (oH_pure (.ptr 1 (s_11005.2.2.toNat * 1)) (ev_idx_own (N := s_11679.1.length) (e := 3) (k := 1) (ik := .i64) h_11768 rfl (by kernel_rfl) (by kernel_rfl) (by kernel_rfl) (by kernel_rfl)) rfl) ?_
            refine mm_one 3 (.load 3 (.tmp 44)) (some 45) (by kernel_rfl) (by kernel_rfl) (oH_pure (I x_11767) (ev_load_row (o := s_11005.2.2.toNat * 1) (b := 1) (i := s_11005.2.2.toNat) (j := 0) (k := 1) (c := cI) (sz := 1) (ty := 3) (fun _ => rfl) (getI_some h_11768).2 rfl (by kernel_rfl) (by kernel_rfl) (by kernel_rfl)) rfl) ?_
            refine mm_run 4 6 rfl (by kernel_rfl) ?_
            obtain ⟨x_11771, h_11772, h⟩ := bind_some' h
            refine mm_one 6 (.indexAddr 81 (.tmp 46) (.tmp 47)) (some 48) (by kernel_rfl) (by kernel_rfl) (oH_pure (.ptr 2 (s_11679.2.2.toNat * 1)) (ev_idx_own (N := s_11679.2.1.length) (e := 3) (k := 1) (ik := .i64) h_11772 rfl (by kernel_rfl) (by kernel_rfl) (by kernel_rfl) (by kernel_rfl)) rfl) ?_
            refine mm_one 7 (.load 3 (.tmp 48)) (some 49) (by kernel_rfl) (by kernel_rfl) (oH_pure (I x_11771) (ev_load_row (o := s_11679.2.2.toNat * 1) (b := 2) (i := s_11679.2.2.toNat) (j := 0) (k := 1) (c := cI) (sz := 1) (ty := 3) (fun _ => rfl) (getI_some h_11772).2 rfl (by kernel_rfl) (by kernel_rfl) (by kernel_rfl)) rfl) ?_
            obtain ⟨x_11773, h_11774, h⟩ := bind_some' h
            refine mm_one 8 (.call ⟨.value (.func 57), #[(.tmp 45), (.tmp 49)], #[3, 3]⟩) (some 50) (by kernel_rfl) (by kernel_rfl) (oH_callP (g_quantity_divisor_ok h_11774) (by kernel_rfl) rfl) ?_
            refine mix_fin' hK_11764 ⟨[(6, .ptr 0 0), (8, .own 1 s_11679.1.length), (9, .own 2 s_11679.2.1.length), (10, I s_11005.2.2), (11, I s_11679.2.2), (12, I x_11773), (33, I ([a1.Num, a2.Num, a3.Den].length : Int)), (34, I s_11005.2.2), (38, I (s_11005.2.1.length : Int)), (39, I s_11679.2.2)], [(0, ⟨31, 0, [I 0, I 0]⟩), (1, ⟨3, 1, flat cI s_11679.1⟩), (2, ⟨3, 1, flat cI s_11679.2.1⟩)], 3⟩ (by kernel_rfl) (leB rfl) ?_
            refine w_seq (fun K hK_11789 => w_reg0 ?_)
            refine dd_run 0 2 rfl (by kernel_rfl) ?_
            obtain ⟨x_11792, h_11793, h⟩ := bind_some' h
            refine dd_one 2 (.indexAddr 81 (.tmp 51) (.tmp 52)) (some 53) (by kernel_rfl) (o_pure (.ptr 1 (s_11005.2.2.toNat * 1)) (ev_idx_own (N := s_11679.1.length) (e := 3) (k := 1) (ik := .i64) h_11793 rfl (by kernel_rfl) (by kernel_rfl) (by kernel_rfl) (by kernel_rfl)) rfl) ?_
            refine dd_one 3 (.load 3 (.tmp 53)) (some 54) (by kernel_rfl) (o_pure (I x_11792) (ev_load_row (o := s_11005.2.2.toNat * 1) (b := 1) (i := s_11005.2.2.toNat) (j := 0) (k := 1) (c := cI) (sz := 1) (ty := 3) (fun _ => rfl) (getI_some h_11793).2 rfl (by kernel_rfl) (by kernel_rfl) (by kernel_rfl)) rfl) ?_
            refine dd_run 4 5 rfl (by kernel_rfl) ?_
            obtain ⟨x_11796, h_11797, h⟩ := bind_some' h
            refine dd_one 5 (.binOp .quo 3 (.tmp 54) (.tmp 55) 3) (some 56) (by kernel_rfl) (o_pure (I x_11796) (ev_quo h_11797 (by kernel_rfl) (by kernel_rfl)) rfl) ?_
            obtain ⟨x_11800, h_11801, h⟩ := bind_some' h
            refine dd_one 6 (.indexAddr 81 (.tmp 51) (.tmp 52)) (some 57) (by kernel_rfl) (o_pure (.ptr 1 (s_11005.2.2.toNat * 1)) (ev_idx_own (N := s_11679.1.length) (e := 3) (k := 1) (ik := .i64) h_11801 rfl (by kernel_rfl) (by kernel_rfl) (by kernel_rfl) (by kernel_rfl)) rfl) ?_
            refine dd_one 7 (.store 3 (.tmp 57) (.tmp 56)) none (by kernel_rfl) (o_heap (U) [(0, ⟨31, 0, [I 0, I 0]⟩), (1, ⟨3, 1, flat cI (setI s_11679.1 s_11005.2.2 x_11796)⟩), (2, ⟨3, 1, flat cI s_11679.2.1⟩)] 3 (by kernel_rfl) (hv_store_row (o := s_11005.2.2.toNat * 1) (b := 1) (y := I x_11796) (i := s_11005.2.2.toNat) (j := 0) (k := 1) (s := 1) (c := cI) (a' := x_11796) (sz := 1) (ty := 3) (fun _ => rfl) (getI_some h_11801).2 rfl (by kernel_rfl) (by kernel_rfl) (by kernel_rfl) (by kernel_rfl) (by kernel_rfl) (by kernel_rfl) (leB rfl) (by kernel_rfl)) rfl) ?_
            refine ops_fin' hK_11789 ⟨[(6, .ptr 0 0), (8, .own 1 s_11679.1.length), (9, .own 2 s_11679.2.1.length), (10, I s_11005.2.2), (11, I s_11679.2.2), (12, I x_11773), (33, I ([a1.Num, a2.Num, a3.Den].length : Int)), (34, I s_11005.2.2), (38, I (s_11005.2.1.length : Int)), (39, I s_11679.2.2)], [(0, ⟨31, 0, [I 0, I 0]⟩), (1, ⟨3, 1, flat cI (setI s_11679.1 s_11005.2.2 x_11796)⟩), (2, ⟨3, 1, flat cI s_11679.2.1⟩)], 3⟩ (by kernel_rfl) (leB rfl) ?_
            refine w_reg0 ?_
            refine dd_run 0 2 rfl (by kernel_rfl) ?_
            obtain ⟨x_11804, h_11805, h⟩ := bind_some' h
            refine dd_one 2 (.indexAddr 81 (.tmp 58) (.tmp 59)) (some 60) (by kernel_rfl) (o_pure (.ptr 2 (s_11679.2.2.toNat * 1)) (ev_idx_own (N := s_11679.2.1.length) (e := 3) (k := 1) (ik := .i64) h_11805 rfl (by kernel_rfl) (by kernel_rfl) (by kernel_rfl) (by kernel_rfl)) rfl) ?_
            refine dd_one 3 (.load 3 (.tmp 60)) (some 61) (by kernel_rfl) (o_pure (I x_11804) (ev_load_row (o := s_11679.2.2.toNat * 1) (b := 2) (i := s_11679.2.2.toNat) (j := 0) (k := 1) (c := cI) (sz := 1) (ty := 3) (fun _ => rfl) (getI_some h_11805).2 rfl (by kernel_rfl) (by kernel_rfl) (by kernel_rfl)) rfl) ?_
            refine dd_run 4 5 rfl (by kernel_rfl) ?_
            obtain ⟨x_11808, h_11809, h⟩ := bind_some' h
            refine dd_one 5 (.binOp .quo 3 (.tmp 61) (.tmp 62) 3) (some 63) (by kernel_rfl) (o_pure (I x_11808) (ev_quo h_11809 (by kernel_rfl) (by kernel_rfl)) rfl) ?_
            obtain ⟨x_11812, h_11813, h⟩ := bind_some' h
            refine dd_one 6 (.indexAddr 81 (.tmp 58) (.tmp 59)) (some 64) (by kernel_rfl) (o_pure (.ptr 2 (s_11679.2.2.toNat * 1)) (ev_idx_own (N := s_11679.2.1.length) (e := 3) (k := 1) (ik := .i64) h_11813 rfl (by kernel_rfl) (by kernel_rfl) (by kernel_rfl) (by kernel_rfl)) rfl) ?_
            refine dd_one 7 (.store 3 (.tmp 64) (.tmp 63)) none (by kernel_rfl) (o_heap (U) [(0, ⟨31, 0, [I 0, I 0]⟩), (1, ⟨3, 1, flat cI (setI s_11679.1 s_11005.2.2 x_11796)⟩), (2, ⟨3, 1, flat cI (setI s_11679.2.1 s_11679.2.2 x_11808)⟩)] 3 (by kernel_rfl) (hv_store_row (o := s_11679.2.2.toNat * 1) (b := 2) (y := I x_11808) (i := s_11679.2.2.toNat) (j := 0) (k := 1) (s := 1) (c := cI) (a' := x_11808) (sz := 1) (ty := 3) (fun _ => rfl) (getI_some h_11813).2 rfl (by kernel_rfl) (by kernel_rfl) (by kernel_rfl) (by kernel_rfl) (by kernel_rfl) (by kernel_rfl) (leB rfl) (by kernel_rfl)) rfl) ?_
            refine dd_nil 8 rfl ?_
            refine hK_11749 _ ⟨[(6, .ptr 0 0), (8, .own 1 s_11679.1.length), (9, .own 2 s_11679.2.1.length), (10, I s_11005.2.2), (33, I ([a1.Num, a2.Num, a3.Den].length : Int)), (34, I s_11005.2.2), (38, I (s_11005.2.1.length : Int)), (39, I s_11679.2.2)], [(0, ⟨31, 0, [I 0, I 0]⟩), (1, ⟨3, 1, flat cI (setI s_11679.1 s_11005.2.2 x_11796)⟩), (2, ⟨3, 1, flat cI (setI s_11679.2.1 s_11679.2.2 x_11808)⟩)], 3⟩ (to_trim (by kernel_rfl) (leB rfl)) ?_
            refine w_reg0 ?_
            refine dd_run 0 2 rfl (by kernel_rfl) ?_
            refine dd_nil 2 rfl ?_
            exact hK_11681 _ _ (Option.some.inj h).symm (to_trans (to_put 8 (leB rfl) (by kernel_rfl) (Sub.of_eq (show AV.own 1 s_11679.1.length = AV.own 1 (setI s_11679.1 s_11005.2.2 x_11796).length by simp [setI]))) (to_trans (to_put 9 (leB rfl) (by kernel_rfl) (Sub.of_eq (show AV.own 2 s_11679.2.1.length = AV.own 2 (setI s_11679.2.1 s_11679.2.2 x_11808).length by simp [setI]))) (to_ren [] (leB rfl) (by kernel_rfl) (by kernel_rfl) (renE_of (by kernel_rfl) (by kernel_rfl)) ⟨reRn (by kernel_rfl) (leB rfl) (by kernel_rfl), ⟨rePl (by kernel_rfl) (leB rfl) (flat_all _ (fun _ => rfl) _), ⟨rePl (by kernel_rfl) (leB rfl) (flat_all _ (fun _ => rfl) _), trivial⟩⟩⟩)))
          · refine w_exit ?_
            refine hK_11412 _ ⟨[(6, .ptr 0 0), (8, .own 1 s_11679.1.length), (9, .own 2 s_11679.2.1.length), (33, I ([a1.Num, a2.Num, a3.Den].length : Int)), (34, I s_11005.2.2)], [(0, ⟨31, 0, [I 0, I 0]⟩), (1, ⟨3, 1, flat cI s_11679.1⟩), (2, ⟨3, 1, flat cI s_11679.2.1⟩)], 3⟩ (to_trim (by kernel_rfl) (leB rfl)) ?_
            refine w_reg0 ?_
            refine dd_run 0 2 rfl (by kernel_rfl) ?_
            refine dd_nil 2 rfl ?_
            exact hK_11007 _ _ (h_11680 _ (Option.some.inj h).symm).symm (to_ren [] (leB rfl) (by kernel_rfl) (by kernel_rfl) (renE_of (by kernel_rfl) (by kernel_rfl)) ⟨reRn (by kernel_rfl) (leB rfl) (by kernel_rfl), ⟨rePl (by kernel_rfl) (leB rfl) (flat_all _ (fun _ => rfl) _), ⟨rePl (by kernel_rfl) (leB rfl) (flat_all _ (fun _ => rfl) _), trivial⟩⟩⟩)
      · refine w_exit ?_
        exact hK_9390 _ _ (h_11006 _ (Option.some.inj h).symm).symm (to_trans (to_frz 8 1 s_11005.1.length s_11005.1 3 (k := 1) (c := cI) (leB rfl) (by kernel_rfl) (by kernel_rfl) (leB rfl) rfl (fun _ => rfl) (fun _ => rfl) (fun _ => rfl)) (to_trans (to_frz 9 2 s_11005.2.1.length s_11005.2.1 3 (k := 1) (c := cI) (leB rfl) (by kernel_rfl) (by kernel_rfl) (leB rfl) rfl (fun _ => rfl) (fun _ => rfl) (fun _ => rfl)) (to_ren [] (leB rfl) (by kernel_rfl) (by kernel_rfl) (renE_of (by kernel_rfl) (by kernel_rfl)) ⟨reRn (by kernel_rfl) (leB rfl) (by kernel_rfl), trivial⟩)))
  · refine w_regD ⟨[(6, .ptr 0 0), (8, sl 1 cI e_9388.1), (9, sl 1 cI e_9388.2), (13, .ptr 1 0), (14, .ptr 2 0)], [(2, ⟨31, 0, (cs_Ratio (D.Ratio.mk 1 1))⟩), (1, ⟨31, 0, (cs_Ratio (D.Ratio.mk 1 1))⟩), (0, ⟨31, 0, [I 0, I 0]⟩)], 3⟩ (by kernel_rfl) (by kernel_rfl) (by kernel_rfl) (leB rfl) ?_
    refine w_assoc ?_
    refine w_seq (fun K hK_11814 => w_reg0 ?_)
    refine dd_run 0 1 rfl (by kernel_rfl) ?_
    refine dd_one 1 (.call ⟨.builtin .len, #[(.tmp 69)], #[81]⟩) (some 70) (by kernel_rfl) (o_pure (I (e_9388.1.length : Int)) (ev_len_sl (e := 3) (ty := 0) (k := 1) (c := cI) (by kernel_rfl) (by kernel_rfl)) rfl) ?_
    refine ops_fin' hK_11814 ⟨[(6, .ptr 0 0), (8, sl 1 cI e_9388.1), (9, sl 1 cI e_9388.2), (13, .ptr 1 0), (14, .ptr 2 0), (70, I (e_9388.1.length : Int)), (71, I 0)], [(2, ⟨31, 0, (cs_Ratio (D.Ratio.mk 1 1))⟩), (1, ⟨31, 0, (cs_Ratio (D.Ratio.mk 1 1))⟩), (0, ⟨31, 0, [I 0, I 0]⟩)], 3⟩ (by kernel_rfl) (leB rfl) ?_
    refine w_cut h (fun (e_12070 : D.Ratio × D.Ratio) => ⟨[(6, .ptr 0 0), (13, .ptr 1 0), (14, .ptr 2 0)], [(0, ⟨31, 0, [I 0, I 0]⟩), (1, ⟨31, 0, (cs_Ratio e_12070.1)⟩), (2, ⟨31, 0, (cs_Ratio e_12070.2)⟩)], 3⟩) (fun o h h_12071 K hK_12072 => ?_) (fun e_12070 h => ?_)
    · refine w_block ?_
      refine w_loopO h (fun (s_12243 : D.Ratio × D.Ratio × Int) => ⟨[(6, .ptr 0 0), (8, sl 1 cI e_9388.1), (9, sl 1 cI e_9388.2), (13, .ptr 1 0), (14, .ptr 2 0), (70, I (e_9388.1.length : Int)), (71, I s_12243.2.2)], [(0, ⟨31, 0, [I 0, I 0]⟩), (1, ⟨31, 0, (cs_Ratio s_12243.1)⟩), (2, ⟨31, 0, (cs_Ratio s_12243.2.1)⟩)], 3⟩) (to_ren [] (leB rfl) (by kernel_rfl) (by kernel_rfl) (renE_of (by kernel_rfl) (by kernel_rfl)) ⟨reRn (by kernel_rfl) (leB rfl) (by kernel_rfl), ⟨reRn (by kernel_rfl) (leB rfl) (by kernel_rfl), ⟨reRn (by kernel_rfl) (leB rfl) (by kernel_rfl), trivial⟩⟩⟩) (fun s_12243 o h h_12244 K hK_12245 => ?_)
      · refine w_reg ⟨[(6, .ptr 0 0), (8, sl 1 cI e_9388.1), (9, sl 1 cI e_9388.2), (13, .ptr 1 0), (14, .ptr 2 0), (70, I (e_9388.1.length : Int)), (71, I s_12243.2.2), (72, B (decide (s_12243.2.2 < (e_9388.1.length : Int))))], [(0, ⟨31, 0, [I 0, I 0]⟩), (1, ⟨31, 0, (cs_Ratio s_12243.1)⟩), (2, ⟨31, 0, (cs_Ratio s_12243.2.1)⟩)], 3⟩ (by kernel_rfl) (leB rfl) ?_
        refine w_seq (fun K hK_12247 => ?_)
        refine w_ite h (by kernel_rfl) (fun h_12248 h => ?_) (fun h_12248 h => ?_)
        · refine w_skip ?_
          refine hK_12247 _ ⟨[(6, .ptr 0 0), (8, sl 1 cI e_9388.1), (9, sl 1 cI e_9388.2), (13, .ptr 1 0), (14, .ptr 2 0), (70, I (e_9388.1.length : Int)), (71, I s_12243.2.2)], [(0, ⟨31, 0, [I 0, I 0]⟩), (1, ⟨31, 0, (cs_Ratio s_12243.1)⟩), (2, ⟨31, 0, (cs_Ratio s_12243.2.1)⟩)], 3⟩ (to_trim (by kernel_rfl) (leB rfl)) ?_
          refine w_seq (fun K hK_12289 => ?_)
          refine w_block ?_
          refine w_reg ⟨[(6, .ptr 0 0), (8, sl 1 cI e_9388.1), (9, sl 1 cI e_9388.2), (13, .ptr 1 0), (14, .ptr 2 0), (15, I s_12243.2.2), (70, I (e_9388.1.length : Int)), (71, I s_12243.2.2)], [(0, ⟨31, 0, [I 0, I 0]⟩), (1, ⟨31, 0, (cs_Ratio s_12243.1)⟩), (2, ⟨31, 0, (cs_Ratio s_12243.2.1)⟩)], 3⟩ (by kernel_rfl) (leB rfl) ?_
          refine w_reg ⟨[(6, .ptr 0 0), (8, sl 1 cI e_9388.1), (9, sl 1 cI e_9388.2), (13, .ptr 1 0), (14, .ptr 2 0), (15, I s_12243.2.2), (70, I (e_9388.1.length : Int)), (71, I s_12243.2.2)], [(0, ⟨31, 0, [I 0, I 0]⟩), (1, ⟨31, 0, (cs_Ratio s_12243.1)⟩), (2, ⟨31, 0, (cs_Ratio s_12243.2.1)⟩)], 3⟩ (by kernel_rfl) (leB rfl) ?_
          refine w_seq (fun K hK_12300 => w_mix0 (by kernel_rfl) (by kernel_rfl) ?_)
          refine mm_run 0 3 rfl (by kernel_rfl) ?_
          obtain ⟨x_12303, h_12304, h⟩ := bind_some' h
          refine mm_one 3 (.indexAddr 81 (.tmp 76) (.tmp 77)) (some 78) (by kernel_rfl) (by kernel_rfl) (oH_pure (.ip [I x_12303]) (ev_idx_sl (e := 3) (k := 1) (c := cI) (ik := .i64) h_12304 (by kernel_rfl) (by kernel_rfl) (by kernel_rfl) (by kernel_rfl)) rfl) ?_
          refine mm_run 4 6 rfl (by kernel_rfl) ?_
          obtain ⟨x_12305, h_12306, h⟩ := bind_some' h
          refine mm_one 6 (.call ⟨.value (.func 58), #[(.tmp 75), (.tmp 80)], #[31, 31]⟩) (some 81) (by kernel_rfl) (by kernel_rfl) (oH_callP (g_ratio_Mul_ok h_12306) (by kernel_rfl) rfl) ?_
          refine mm_run 7 10 rfl (by kernel_rfl) ?_
          refine mm_ops 10 (.store 31 (.tmp 13) (.tmp 82)) none none (by kernel_rfl) (by kernel_rfl) ?_
          refine ops_fin' hK_12300 ⟨[(6, .ptr 0 0), (8, sl 1 cI e_9388.1), (9, sl 1 cI e_9388.2), (13, .ptr 1 0), (14, .ptr 2 0), (15, I s_12243.2.2), (16, I x_12305.2), (70, I (e_9388.1.length : Int)), (71, I s_12243.2.2)], [(0, ⟨31, 0, [I 0, I 0]⟩), (1, ⟨31, 0, (cs_Ratio x_12305.1)⟩), (2, ⟨31, 0, (cs_Ratio s_12243.2.1)⟩)], 3⟩ (by kernel_rfl) (leB rfl) ?_
          refine w_seq (fun K hK_12317 => w_mix0 (by kernel_rfl) (by kernel_rfl) ?_)
          refine mm_run 0 3 rfl (by kernel_rfl) ?_
          obtain ⟨x_12320, h_12321, h⟩ := bind_some' h
          refine mm_one 3 (.indexAddr 81 (.tmp 86) (.tmp 87)) (some 88) (by kernel_rfl) (by kernel_rfl) (oH_pure (.ip [I x_12320]) (ev_idx_sl (e := 3) (k := 1) (c := cI) (ik := .i64) h_12321 (by kernel_rfl) (by kernel_rfl) (by kernel_rfl) (by kernel_rfl)) rfl) ?_
          refine mm_run 4 6 rfl (by kernel_rfl) ?_
          obtain ⟨x_12322, h_12323, h⟩ := bind_some' h
          refine mm_one 6 (.call ⟨.value (.func 58), #[(.tmp 85), (.tmp 90)], #[31, 31]⟩) (some 91) (by kernel_rfl) (by kernel_rfl) (oH_callP (g_ratio_Mul_ok h_12323) (by kernel_rfl) rfl) ?_
          refine mm_run 7 10 rfl (by kernel_rfl) ?_
          refine mm_ops 10 (.store 31 (.tmp 14) (.tmp 92)) none none (by kernel_rfl) (by kernel_rfl) ?_
          refine ops_fin' hK_12317 ⟨[(6, .ptr 0 0), (8, sl 1 cI e_9388.1), (9, sl 1 cI e_9388.2), (13, .ptr 1 0), (14, .ptr 2 0), (16, I x_12305.2), (17, I x_12322.2), (70, I (e_9388.1.length : Int)), (71, I s_12243.2.2)], [(0, ⟨31, 0, [I 0, I 0]⟩), (1, ⟨31, 0, (cs_Ratio x_12305.1)⟩), (2, ⟨31, 0, (cs_Ratio x_12322.1)⟩)], 3⟩ (by kernel_rfl) (leB rfl) ?_
          refine w_cut h (fun (e_12325 : Bool) => ⟨[(6, .ptr 0 0), (8, sl 1 cI e_9388.1), (9, sl 1 cI e_9388.2), (13, .ptr 1 0), (14, .ptr 2 0), (70, I (e_9388.1.length : Int)), (71, I s_12243.2.2), (99, B e_12325)], [(0, ⟨31, 0, [I 0, I 0]⟩), (1, ⟨31, 0, (cs_Ratio x_12305.1)⟩), (2, ⟨31, 0, (cs_Ratio x_12322.1)⟩)], 3⟩) (fun o h h_12326 K hK_12327 => ?_) (fun e_12325 h => ?_)
          · refine w_reg0 ?_
            refine dd_run 0 3 rfl (by kernel_rfl) ?_
            refine ite_both h (fun h_12328 h => ?_) (fun h_12328 h => ?_)
            · refine dd_skip 3 5 2 false rfl (b := (x_12305.2 != 0)) (by kernel_rfl) h_12328 (by kernel_rfl) ?_
              refine dd_one 5 (.pick (.tmp 96) (.const (.bool true)) (.tmp 98)) (some 99) (by kernel_rfl) (o_pure (B true) (ev_pickT h_12328 (by kernel_rfl) (by kernel_rfl)) rfl) ?_
              refine dd_nil 6 rfl ?_
              exact hK_12327 _ _ (Option.some.inj h).symm (to_ren [] (leB rfl) (by kernel_rfl) (by kernel_rfl) (renE_of (by kernel_rfl) (by kernel_rfl)) ⟨reRn (by kernel_rfl) (leB rfl) (by kernel_rfl), ⟨reRn (by kernel_rfl) (leB rfl) (by kernel_rfl), ⟨reRn (by kernel_rfl) (leB rfl) (by kernel_rfl), trivial⟩⟩⟩)
            · refine dd_runG 3 5 2 false rfl (b := (x_12305.2 != 0)) (by kernel_rfl) h_12328 (by kernel_rfl) ?_
              refine dd_one 5 (.pick (.tmp 96) (.const (.bool true)) (.tmp 98)) (some 99) (by kernel_rfl) (o_pure (B (x_12322.2 != 0)) (ev_pickF h_12328 (by kernel_rfl) (by kernel_rfl)) rfl) ?_
              refine dd_nil 6 rfl ?_
              exact hK_12327 _ _ (Option.some.inj h).symm (to_ren [] (leB rfl) (by kernel_rfl) (by kernel_rfl) (renE_of (by kernel_rfl) (by kernel_rfl)) ⟨reRn (by kernel_rfl) (leB rfl) (by kernel_rfl), ⟨reRn (by kernel_rfl) (leB rfl) (by kernel_rfl), ⟨reRn (by kernel_rfl) (leB rfl) (by kernel_rfl), trivial⟩⟩⟩)
          · refine w_ite h (by kernel_rfl) (fun h_12329 h => ?_) (fun h_12329 h => ?_)
            · refine w_reg ⟨[(6, .ptr 0 0), (7, I 2)], [(0, ⟨31, 0, [I 0, I 0]⟩), (1, ⟨31, 0, (cs_Ratio x_12305.1)⟩), (2, ⟨31, 0, (cs_Ratio x_12322.1)⟩)], 3⟩ (by kernel_rfl) (leB rfl) ?_
              refine w_ret ?_
              obtain rfl := ((h_12071 _ (h_12244 _ (Option.some.inj h).symm).symm).symm).symm
              exact ret_leaf (.inl rfl) ⟨[(6, .ptr 0 0), (7, I 2)], [(0, ⟨31, 0, (cs_Ratio (D.Ratio.mk 0 0))⟩)], 1⟩ (to_ren [] (leB rfl) (by kernel_rfl) (by kernel_rfl) (renE_of (by kernel_rfl) (by kernel_rfl)) ⟨reRn (by kernel_rfl) (leB rfl) (by kernel_rfl), trivial⟩) [.agg (cs_Ratio (D.Ratio.mk 0 0)), I 2] (by kernel_rfl) (by kernel_rfl) (leB rfl) (by kernel_rfl) trivial
            · refine w_skip ?_
              refine hK_12289 _ ⟨[(6, .ptr 0 0), (8, sl 1 cI e_9388.1), (9, sl 1 cI e_9388.2), (13, .ptr 1 0), (14, .ptr 2 0), (70, I (e_9388.1.length : Int)), (71, I s_12243.2.2)], [(0, ⟨31, 0, [I 0, I 0]⟩), (1, ⟨31, 0, (cs_Ratio x_12305.1)⟩), (2, ⟨31, 0, (cs_Ratio x_12322.1)⟩)], 3⟩ (to_trim (by kernel_rfl) (leB rfl)) ?_
              refine w_reg0 ?_
              refine dd_run 0 2 rfl (by kernel_rfl) ?_
              refine dd_nil 2 rfl ?_
              exact hK_12245 _ _ (Option.some.inj h).symm (to_ren [] (leB rfl) (by kernel_rfl) (by kernel_rfl) (renE_of (by kernel_rfl) (by kernel_rfl)) ⟨reRn (by kernel_rfl) (leB rfl) (by kernel_rfl), ⟨reRn (by kernel_rfl) (leB rfl) (by kernel_rfl), ⟨reRn (by kernel_rfl) (leB rfl) (by kernel_rfl), trivial⟩⟩⟩)
        · refine w_exit ?_
          exact hK_12072 _ _ (h_12244 _ (Option.some.inj h).symm).symm (to_ren [] (leB rfl) (by kernel_rfl) (by kernel_rfl) (renE_of (by kernel_rfl) (by kernel_rfl)) ⟨reRn (by kernel_rfl) (leB rfl) (by kernel_rfl), ⟨reRn (by kernel_rfl) (leB rfl) (by kernel_rfl), ⟨reRn (by kernel_rfl) (leB rfl) (by kernel_rfl), trivial⟩⟩⟩)
    · refine w_seq (fun K hK_12332 => w_reg0 ?_)
      refine dd_run 0 2 rfl (by kernel_rfl) ?_
      obtain ⟨x_12333, h_12334, h⟩ := bind_some' h
      refine dd_one 2 (.call ⟨.value (.func 58), #[(.tmp 102), (.tmp 103)], #[31, 31]⟩) (some 104) (by kernel_rfl) (o_callP (g_ratio_Mul_ok h_12334) (by kernel_rfl) rfl) ?_
      refine ops_fin' hK_12332 ⟨[(6, .ptr 0 0), (7, I x_12333.2)], [(0, ⟨31, 0, (cs_Ratio x_12333.1)⟩), (1, ⟨31, 0, (cs_Ratio e_12070.1)⟩), (2, ⟨31, 0, (cs_Ratio e_12070.2)⟩)], 3⟩ (by kernel_rfl) (leB rfl) ?_
      refine w_ret ?_
      obtain rfl := ((Option.some.inj h).symm).symm
      exact ret_leaf (.inl rfl) ⟨[(6, .ptr 0 0), (7, I x_12333.2)], [(0, ⟨31, 0, (cs_Ratio x_12333.1)⟩)], 1⟩ (to_ren [] (leB rfl) (by kernel_rfl) (by kernel_rfl) (renE_of (by kernel_rfl) (by kernel_rfl)) ⟨reRn (by kernel_rfl) (leB rfl) (by kernel_rfl), trivial⟩) [.agg (cs_Ratio x_12333.1), I x_12333.2] (by kernel_rfl) (by kernel_rfl) (leB rfl) (by kernel_rfl) trivial
/-- (estoppel/quantity.table).at -/
def g_estoppel_quantity_table_at (a1 : List D.Unit) (a2 : Int) : Option (D.Unit × Bool) :=
  bindF (ρ := Bool) (
  if (decide (a2 < 0)) = true then
  some (.inl true)
  else
  some (.inl (decide (a2 ≥ (a1.length : Int))))) (fun (e_12382 : Bool) =>
  if e_12382 = true then
  some ((D.Unit.mk ByteArray.empty 0 0 (D.Ratio.mk 0 0)), false)
  else
  (getI a1 a2).bind fun x_12398 =>
  some (x_12398, true))
set_option maxHeartbeats 4000000 in
theorem g_estoppel_quantity_table_at_ok {a1 : List D.Unit} {a2 : Int} {res : D.Unit × Bool} (h : g_estoppel_quantity_table_at a1 a2 = some res) : SpecK Tryd.prog [] 33 [sl 5 cs_Unit a1, I a2] [] 0 (.tup [.agg (cs_Unit res.1), B res.2]) [] 0 := by
  refine ⟨spec_of_wp Tryd.func33 (by kernel_rfl) rfl Tryd.ntmps33 (by rw [Tryd.results33]) (leB rfl) ?_, by kernel_rfl, trivial, by kernel_rfl, trivial, by kernel_rfl⟩
  unfold g_estoppel_quantity_table_at at h
  refine w_reg ⟨[(0, sl 5 cs_Unit a1), (1, I a2), (4, .ptr 0 0)], [(0, ⟨42, 0, [Sr ByteArray.empty, I 0, I 0, I 0, I 0]⟩)], 1⟩ (by kernel_rfl) (leB rfl) ?_
  refine w_assoc ?_
  refine w_cut h (fun (e_12382 : Bool) => ⟨[(0, sl 5 cs_Unit a1), (1, I a2), (4, .ptr 0 0), (13, B e_12382)], [(0, ⟨42, 0, [Sr ByteArray.empty, I 0, I 0, I 0, I 0]⟩)], 1⟩) (fun o h h_12383 K hK_12384 => ?_) (fun e_12382 h => ?_)
  · refine w_reg0 ?_
    refine dd_run 0 3 rfl (by kernel_rfl) ?_
    refine ite_both h (fun h_12385 h => ?_) (fun h_12385 h => ?_)
    · refine dd_skip 3 7 2 false rfl (b := (decide (a2 < 0))) (by kernel_rfl) h_12385 (by kernel_rfl) ?_
      refine dd_one 7 (.pick (.tmp 8) (.const (.bool true)) (.tmp 12)) (some 13) (by kernel_rfl) (o_pure (B true) (ev_pickT h_12385 (by kernel_rfl) (by kernel_rfl)) rfl) ?_
      refine dd_nil 8 rfl ?_
      exact hK_12384 _ _ (Option.some.inj h).symm (to_ren [] (leB rfl) (by kernel_rfl) (by kernel_rfl) (renE_of (by kernel_rfl) (by kernel_rfl)) ⟨reRn (by kernel_rfl) (leB rfl) (by kernel_rfl), trivial⟩)
    · refine dd_runG 3 5 2 false rfl (b := (decide (a2 < 0))) (by kernel_rfl) h_12385 (by kernel_rfl) ?_
      refine dd_oneG 5 (.call ⟨.builtin .len, #[(.tmp 10)], #[55]⟩) (some 11) 2 false (b := (decide (a2 < 0))) (by kernel_rfl) (by kernel_rfl) h_12385 (o_pure (I (a1.length : Int)) (ev_len_sl (e := 42) (ty := 0) (k := 5) (c := cs_Unit) (by kernel_rfl) (by kernel_rfl)) rfl) ?_
      refine dd_runG 6 7 2 false rfl (b := (decide (a2 < 0))) (by kernel_rfl) h_12385 (by kernel_rfl) ?_
      refine dd_one 7 (.pick (.tmp 8) (.const (.bool true)) (.tmp 12)) (some 13) (by kernel_rfl) (o_pure (B (decide (a2 ≥ (a1.length : Int)))) (ev_pickF h_12385 (by kernel_rfl) (by kernel_rfl)) rfl) ?_
      refine dd_nil 8 rfl ?_
      exact hK_12384 _ _ (Option.some.inj h).symm (to_ren [] (leB rfl) (by kernel_rfl) (by kernel_rfl) (renE_of (by kernel_rfl) (by kernel_rfl)) ⟨reRn (by kernel_rfl) (leB rfl) (by kernel_rfl), trivial⟩)
  · refine w_seq (fun K hK_12387 => ?_)
    refine w_ite h (by kernel_rfl) (fun h_12388 h => ?_) (fun h_12388 h => ?_)
    · refine w_reg ⟨[(4, .ptr 0 0), (5, B false)], [(0, ⟨42, 0, [Sr ByteArray.empty, I 0, I 0, I 0, I 0]⟩)], 1⟩ (by kernel_rfl) (leB rfl) ?_
      refine w_ret ?_
      obtain rfl := ((Option.some.inj h).symm).symm
      exact ret_leaf (.inl rfl) ⟨[(4, .ptr 0 0), (5, B false)], [(0, ⟨42, 0, (cs_Unit (D.Unit.mk ByteArray.empty 0 0 (D.Ratio.mk 0 0)))⟩)], 1⟩ (to_ren [] (leB rfl) (by kernel_rfl) (by kernel_rfl) (renE_of (by kernel_rfl) (by kernel_rfl)) ⟨reRn (by kernel_rfl) (leB rfl) (by kernel_rfl), trivial⟩) [.agg (cs_Unit (D.Unit.mk ByteArray.empty 0 0 (D.Ratio.mk 0 0))), B false] (by kernel_rfl) (by kernel_rfl) (leB rfl) (by kernel_rfl) trivial
    · refine w_skip ?_
      refine hK_12387 _ ⟨[(0, sl 5 cs_Unit a1), (1, I a2), (4, .ptr 0 0)], [(0, ⟨42, 0, [Sr ByteArray.empty, I 0, I 0, I 0, I 0]⟩)], 1⟩ (to_trim (by kernel_rfl) (leB rfl)) ?_
      refine w_seq (fun K hK_12395 => w_reg0 ?_)
      refine dd_run 0 2 rfl (by kernel_rfl) ?_
      obtain ⟨x_12398, h_12399, h⟩ := bind_some' h
      refine dd_one 2 (.indexAddr 55 (.tmp 15) (.tmp 16)) (some 17) (by kernel_rfl) (o_pure (.ip (cs_Unit x_12398)) (ev_idx_sl (e := 42) (k := 5) (c := cs_Unit) (ik := .i64) h_12399 (by kernel_rfl) (by kernel_rfl) (by kernel_rfl) (by kernel_rfl)) rfl) ?_
      refine ops_fin' hK_12395 ⟨[(4, .ptr 0 0), (5, B true)], [(0, ⟨42, 0, (cs_Unit x_12398)⟩)], 1⟩ (by kernel_rfl) (leB rfl) ?_
      refine w_ret ?_
      obtain rfl := ((Option.some.inj h).symm).symm
      exact ret_leaf (.inl rfl) ⟨[(4, .ptr 0 0), (5, B true)], [(0, ⟨42, 0, (cs_Unit x_12398)⟩)], 1⟩ (to_ren [] (leB rfl) (by kernel_rfl) (by kernel_rfl) (renE_of (by kernel_rfl) (by kernel_rfl)) ⟨reRn (by kernel_rfl) (leB rfl) (by kernel_rfl), trivial⟩) [.agg (cs_Unit x_12398), B true] (by kernel_rfl) (by kernel_rfl) (leB rfl) (by kernel_rfl) trivial
end Go.Proofs.YtdfokoapenhalaaDoor.Ab
