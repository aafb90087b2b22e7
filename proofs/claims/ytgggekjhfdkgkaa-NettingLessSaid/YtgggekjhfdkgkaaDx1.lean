/- Functions of the program as plain functions (printed by wip/dec.py). -/
import Derived.Test.YtgggekjhfdkgkaaDxT
namespace Go.Proofs.Ytgggekjhfdkgkaa.Ab
open Go Go.RowKit Go.Shelf
/-- estoppel/netting.minus -/
def g_netting_minus (a1 : D.Ratio) : Option (D.Ratio) :=
  some (D.Ratio.mk (IntKind.i64.wrap (0 - a1.Num)) a1.Den)
set_option maxHeartbeats 4000000 in
theorem g_netting_minus_ok {a1 : D.Ratio} {res : D.Ratio} (h : g_netting_minus a1 = some res) : SpecK Try.prog [] 30 [.agg (cs_Ratio a1)] [] 0 (.agg (cs_Ratio res)) [] 0 := by
  refine ⟨spec_of_wp Try.func30 (by kernel_rfl) rfl Try.ntmps30 (by rw [Try.results30]) (leB rfl) ?_, by kernel_rfl, trivial, by kernel_rfl, trivial, by kernel_rfl⟩
  unfold g_netting_minus at h
  refine w_reg ⟨[(1, .ip (cs_Ratio a1)), (2, .ptr 0 0)], [(0, ⟨34, 0, [I 0, I 0]⟩)], 1⟩ (by kernel_rfl) (leB rfl) ?_
  refine w_reg ⟨[(2, .ptr 0 0)], [(0, ⟨34, 0, [I (IntKind.i64.wrap (0 - a1.Num)), I a1.Den]⟩)], 1⟩ (by kernel_rfl) (leB rfl) ?_
  refine w_ret ?_
  obtain rfl := ((Option.some.inj h).symm).symm
  exact ret_leaf (.inl rfl) ⟨[(2, .ptr 0 0)], [(0, ⟨34, 0, (cs_Ratio (D.Ratio.mk (IntKind.i64.wrap (0 - a1.Num)) a1.Den))⟩)], 1⟩ (to_ren [] (leB rfl) (by kernel_rfl) (by kernel_rfl) (renE_of (by kernel_rfl) (by kernel_rfl)) ⟨reRn (by kernel_rfl) (leB rfl) (by kernel_rfl), trivial⟩) [.agg (cs_Ratio (D.Ratio.mk (IntKind.i64.wrap (0 - a1.Num)) a1.Den))] (by kernel_rfl) (by kernel_rfl) (leB rfl) (by kernel_rfl) trivial
/-- estoppel/ratio.magnitude[int] -/
def g_ratio_magnitude (a1 : Int) : Option (Int) :=
  if (decide (a1 < 0)) = true then
  some (IntKind.u64.wrap (0 - (IntKind.u64.wrap a1)))
  else
  some (IntKind.u64.wrap a1)
set_option maxHeartbeats 4000000 in
theorem g_ratio_magnitude_ok {a1 : Int} {res : Int} (h : g_ratio_magnitude a1 = some res) : SpecK Try.prog [] 53 [I a1] [] 0 (.s (.int .u64 res)) [] 0 := by
  refine ⟨spec_of_wp Try.func53 (by kernel_rfl) rfl Try.ntmps53 (by rw [Try.results53]) (leB rfl) ?_, by kernel_rfl, trivial, by kernel_rfl, trivial, by kernel_rfl⟩
  unfold g_ratio_magnitude at h
  refine w_reg ⟨[(0, I a1)], [], 0⟩ (by kernel_rfl) (leB rfl) ?_
  refine w_assoc ?_
  refine w_reg ⟨[(0, I a1), (4, B (decide (a1 < 0)))], [], 0⟩ (by kernel_rfl) (leB rfl) ?_
  refine w_seq (fun K hK_7 => ?_)
  refine w_ite h (by kernel_rfl) (fun h_8 h => ?_) (fun h_8 h => ?_)
  · refine w_reg ⟨[(2, .s (.int .u64 (IntKind.u64.wrap (0 - (IntKind.u64.wrap a1)))))], [], 0⟩ (by kernel_rfl) (leB rfl) ?_
    refine w_ret ?_
    obtain rfl := ((Option.some.inj h).symm).symm
    exact ret_leaf (.inl rfl) ⟨[(2, .s (.int .u64 (IntKind.u64.wrap (0 - (IntKind.u64.wrap a1)))))], [], 0⟩ (to_ren [] (leB rfl) (by kernel_rfl) (by kernel_rfl) (renE_of (by kernel_rfl) (by kernel_rfl)) trivial) [.s (.int .u64 (IntKind.u64.wrap (0 - (IntKind.u64.wrap a1))))] (by kernel_rfl) (by kernel_rfl) (leB rfl) (by kernel_rfl) trivial
  · refine w_skip ?_
    refine hK_7 _ ⟨[(0, I a1)], [], 0⟩ (to_trim (by kernel_rfl) (leB rfl)) ?_
    refine w_reg ⟨[(2, .s (.int .u64 (IntKind.u64.wrap a1)))], [], 0⟩ (by kernel_rfl) (leB rfl) ?_
    refine w_ret ?_
    obtain rfl := ((Option.some.inj h).symm).symm
    exact ret_leaf (.inl rfl) ⟨[(2, .s (.int .u64 (IntKind.u64.wrap a1)))], [], 0⟩ (to_ren [] (leB rfl) (by kernel_rfl) (by kernel_rfl) (renE_of (by kernel_rfl) (by kernel_rfl)) trivial) [.s (.int .u64 (IntKind.u64.wrap a1))] (by kernel_rfl) (by kernel_rfl) (leB rfl) (by kernel_rfl) trivial
/-- estoppel/ratio.common -/
def g_ratio_common (a1 : List Int) : Option (Int) :=
  bindF (ρ := Int) (
  loopO (σ := Int × Int) (fun s_895 =>
  if (decide (s_895.2 < (a1.length : Int))) = true then
  (getI a1 s_895.2).bind fun x_948 =>
  loopO (σ := Int × Int) (fun s_966 =>
  if (s_966.2 != 0) = true then
  (remO s_966.1 s_966.2).bind fun x_974 =>
  some (.inl (s_966.2, x_974))
  else
  some (.inr (.inl (s_966.1, (IntKind.i64.wrap (s_895.2 + 1)))))) (s_895.1, x_948)
  else
  some (.inr (.inl s_895.1))) (0, 0)) (fun (e_734 : Int) =>
  some e_734)
set_option maxHeartbeats 4000000 in
theorem g_ratio_common_ok {a1 : List Int} {res : Int} (h : g_ratio_common a1 = some res) : SpecK Try.prog [] 54 [sl 1 cU64 a1] [] 0 (.s (.int .u64 res)) [] 0 := by
  refine ⟨spec_of_wp Try.func54 (by kernel_rfl) rfl Try.ntmps54 (by rw [Try.results54]) (leB rfl) ?_, by kernel_rfl, trivial, by kernel_rfl, trivial, by kernel_rfl⟩
  unfold g_ratio_common at h
  refine w_reg ⟨[(0, sl 1 cU64 a1)], [], 0⟩ (by kernel_rfl) (leB rfl) ?_
  refine w_reg ⟨[(0, sl 1 cU64 a1), (3, .s (.int .u64 0))], [], 0⟩ (by kernel_rfl) (leB rfl) ?_
  refine w_assoc ?_
  refine w_seq (fun K hK_496 => w_reg0 ?_)
  refine dd_run 0 1 rfl (by kernel_rfl) ?_
  refine dd_one 1 (.call ⟨.builtin .len, #[(.tmp 6)], #[72]⟩) (some 7) (by kernel_rfl) (o_pure (I (a1.length : Int)) (ev_len_sl (e := 65) (ty := 0) (k := 1) (c := cU64) (by kernel_rfl) (by kernel_rfl)) rfl) ?_
  refine ops_fin' hK_496 ⟨[(3, .s (.int .u64 0)), (6, sl 1 cU64 a1), (7, I (a1.length : Int)), (8, I 0)], [], 0⟩ (by kernel_rfl) (leB rfl) ?_
  refine w_cut h (fun (e_734 : Int) => ⟨[(3, .s (.int .u64 e_734))], [], 0⟩) (fun o h h_735 K hK_736 => ?_) (fun e_734 h => ?_)
  · refine w_block ?_
    refine w_loopO h (fun (s_895 : Int × Int) => ⟨[(3, .s (.int .u64 s_895.1)), (6, sl 1 cU64 a1), (7, I (a1.length : Int)), (8, I s_895.2)], [], 0⟩) (to_ren [] (leB rfl) (by kernel_rfl) (by kernel_rfl) (renE_of (by kernel_rfl) (by kernel_rfl)) trivial) (fun s_895 o h h_896 K hK_897 => ?_)
    · refine w_reg ⟨[(3, .s (.int .u64 s_895.1)), (6, sl 1 cU64 a1), (7, I (a1.length : Int)), (8, I s_895.2), (9, B (decide (s_895.2 < (a1.length : Int))))], [], 0⟩ (by kernel_rfl) (leB rfl) ?_
      refine w_seq (fun K hK_899 => ?_)
      refine w_ite h (by kernel_rfl) (fun h_900 h => ?_) (fun h_900 h => ?_)
      · refine w_skip ?_
        refine hK_899 _ ⟨[(3, .s (.int .u64 s_895.1)), (6, sl 1 cU64 a1), (7, I (a1.length : Int)), (8, I s_895.2)], [], 0⟩ (to_trim (by kernel_rfl) (leB rfl)) ?_
        refine w_seq (fun K hK_938 => ?_)
        refine w_block ?_
        refine w_seq (fun K hK_945 => w_reg0 ?_)
        obtain ⟨x_948, h_949, h⟩ := bind_some' h
        refine dd_one 0 (.indexAddr 72 (.tmp 6) (.tmp 8)) (some 10) (by kernel_rfl) (o_pure (.ip [.s (.int .u64 x_948)]) (ev_idx_sl (e := 65) (k := 1) (c := cU64) (ik := .i64) h_949 (by kernel_rfl) (by kernel_rfl) (by kernel_rfl) (by kernel_rfl)) rfl) ?_
        refine ops_fin' hK_945 ⟨[(3, .s (.int .u64 s_895.1)), (5, .s (.int .u64 x_948)), (6, sl 1 cU64 a1), (7, I (a1.length : Int)), (8, I s_895.2)], [], 0⟩ (by kernel_rfl) (leB rfl) ?_
        refine w_block ?_
        refine w_loopO h (fun (s_966 : Int × Int) => ⟨[(3, .s (.int .u64 s_966.1)), (5, .s (.int .u64 s_966.2)), (6, sl 1 cU64 a1), (7, I (a1.length : Int)), (8, I s_895.2)], [], 0⟩) (to_ren [] (leB rfl) (by kernel_rfl) (by kernel_rfl) (renE_of (by kernel_rfl) (by kernel_rfl)) trivial) (fun s_966 o h h_967 K hK_968 => ?_)
        · refine w_assoc ?_
          refine w_reg ⟨[(3, .s (.int .u64 s_966.1)), (5, .s (.int .u64 s_966.2)), (6, sl 1 cU64 a1), (7, I (a1.length : Int)), (8, I s_895.2), (13, B (s_966.2 != 0))], [], 0⟩ (by kernel_rfl) (leB rfl) ?_
          refine w_seq (fun K hK_970 => ?_)
          refine w_ite h (by kernel_rfl) (fun h_971 h => ?_) (fun h_971 h => ?_)
          · refine w_skip ?_
            refine hK_970 _ ⟨[(3, .s (.int .u64 s_966.1)), (5, .s (.int .u64 s_966.2)), (6, sl 1 cU64 a1), (7, I (a1.length : Int)), (8, I s_895.2)], [], 0⟩ (to_trim (by kernel_rfl) (leB rfl)) ?_
            refine w_block ?_
            refine w_mix0 (by kernel_rfl) (by kernel_rfl) ?_
            refine mm_run 0 3 rfl (by kernel_rfl) ?_
            obtain ⟨x_974, h_975, h⟩ := bind_some' h
            refine mm_one 3 (.binOp .rem 65 (.tmp 15) (.tmp 16) 65) (some 17) (by kernel_rfl) (by kernel_rfl) (oH_pure (.s (.int .u64 x_974)) (ev_rem h_975 (by kernel_rfl) (by kernel_rfl)) rfl) ?_
            refine mm_run 4 6 rfl (by kernel_rfl) ?_
            refine mm_nil 6 rfl ?_
            exact hK_968 _ _ (Option.some.inj h).symm (to_ren [] (leB rfl) (by kernel_rfl) (by kernel_rfl) (renE_of (by kernel_rfl) (by kernel_rfl)) trivial)
          · refine w_exit ?_
            refine hK_938 _ ⟨[(3, .s (.int .u64 s_966.1)), (6, sl 1 cU64 a1), (7, I (a1.length : Int)), (8, I s_895.2)], [], 0⟩ (to_trim (by kernel_rfl) (leB rfl)) ?_
            refine w_reg0 ?_
            refine dd_run 0 2 rfl (by kernel_rfl) ?_
            refine dd_nil 2 rfl ?_
            exact hK_897 _ _ (h_967 _ (Option.some.inj h).symm).symm (to_ren [] (leB rfl) (by kernel_rfl) (by kernel_rfl) (renE_of (by kernel_rfl) (by kernel_rfl)) trivial)
      · refine w_exit ?_
        exact hK_736 _ _ (h_896 _ (Option.some.inj h).symm).symm (to_ren [] (leB rfl) (by kernel_rfl) (by kernel_rfl) (renE_of (by kernel_rfl) (by kernel_rfl)) trivial)
  · refine w_reg ⟨[(2, .s (.int .u64 e_734))], [], 0⟩ (by kernel_rfl) (leB rfl) ?_
    refine w_ret ?_
    obtain rfl := ((Option.some.inj h).symm).symm
    exact ret_leaf (.inl rfl) ⟨[(2, .s (.int .u64 e_734))], [], 0⟩ (to_ren [] (leB rfl) (by kernel_rfl) (by kernel_rfl) (renE_of (by kernel_rfl) (by kernel_rfl)) trivial) [.s (.int .u64 e_734)] (by kernel_rfl) (by kernel_rfl) (leB rfl) (by kernel_rfl) trivial
/-- estoppel/ratio.Valid -/
def g_ratio_Valid (a1 : D.Ratio) : Option (Bool) :=
  if (decide (0 < a1.Den)) = true then
  if (decide (a1.Den ≤ 1000000)) = true then
  (g_ratio_magnitude a1.Num).bind fun x_1004 =>
  if (decide (x_1004 ≤ 1000000000000)) = true then
  (g_ratio_magnitude a1.Num).bind fun x_1007 =>
  (g_ratio_magnitude a1.Den).bind fun x_1009 =>
  (g_ratio_common [x_1007, x_1009]).bind fun x_1011 =>
  some (x_1011 == 1)
  else
  some false
  else
  some false
  else
  some false
set_option maxHeartbeats 4000000 in
theorem g_ratio_Valid_ok {a1 : D.Ratio} {res : Bool} (h : g_ratio_Valid a1 = some res) : SpecK Try.prog [] 43 [.agg (cs_Ratio a1)] [] 0 (B res) [] 0 := by
  refine ⟨spec_of_wp Try.func43 (by kernel_rfl) rfl Try.ntmps43 (by rw [Try.results43]) (leB rfl) ?_, by kernel_rfl, trivial, by kernel_rfl, trivial, by kernel_rfl⟩
  unfold g_ratio_Valid at h
  refine w_reg ⟨[(1, .ip (cs_Ratio a1))], [], 0⟩ (by kernel_rfl) (leB rfl) ?_
  refine w_seq (fun K hK_1001 => w_mix0 (by kernel_rfl) (by kernel_rfl) ?_)
  refine mm_run 0 4 rfl (by kernel_rfl) ?_
  refine ite_both h (fun h_1002 h => ?_) (fun h_1002 h => ?_)
  · refine mm_oneG 4 (.fieldAddr 34 (.tmp 1) 1) (some 7) 3 true (b := (decide (0 < a1.Den))) (by kernel_rfl) (by kernel_rfl) (by kernel_rfl) h_1002 (oH_pure (.ip (((cs_Ratio a1)).drop 1)) (by kernel_rfl) rfl) ?_
    refine mm_oneG 5 (.load 3 (.tmp 7)) (some 8) 3 true (b := (decide (0 < a1.Den))) (by kernel_rfl) (by kernel_rfl) (by kernel_rfl) h_1002 (oH_pure (I a1.Den) (by kernel_rfl) rfl) ?_
    refine mm_oneG 6 (.binOp .leq 3 (.tmp 8) (.const (.int .i64 (1000000))) 3) (some 9) 3 true (b := (decide (0 < a1.Den))) (by kernel_rfl) (by kernel_rfl) (by kernel_rfl) h_1002 (oH_pure (B (decide (a1.Den ≤ 1000000))) (by kernel_rfl) rfl) ?_
    refine mm_one 7 (.pick (.tmp 6) (.tmp 9) (.const (.bool false))) (some 10) (by kernel_rfl) (by kernel_rfl) (oH_pure (B (decide (a1.Den ≤ 1000000))) (ev_pickT h_1002 (by kernel_rfl) (by kernel_rfl)) rfl) ?_
    refine mm_run 8 9 rfl (by kernel_rfl) ?_
    refine ite_both h (fun h_1003 h => ?_) (fun h_1003 h => ?_)
    · refine mm_oneG 9 (.fieldAddr 34 (.tmp 1) 0) (some 12) 8 true (b := (decide (a1.Den ≤ 1000000))) (by kernel_rfl) (by kernel_rfl) (by kernel_rfl) h_1003 (oH_pure (.ip (cs_Ratio a1)) (by kernel_rfl) rfl) ?_
      refine mm_oneG 10 (.load 3 (.tmp 12)) (some 13) 8 true (b := (decide (a1.Den ≤ 1000000))) (by kernel_rfl) (by kernel_rfl) (by kernel_rfl) h_1003 (oH_pure (I a1.Num) (by kernel_rfl) rfl) ?_
      obtain ⟨x_1004, h_1005, h⟩ := bind_some' h
      refine mm_oneG 11 (.call ⟨.value (.func 53), #[(.tmp 13)], #[3]⟩) (some 14) 8 true (b := (decide (a1.Den ≤ 1000000))) (by kernel_rfl) (by kernel_rfl) (by kernel_rfl) h_1003 (oH_callP (g_ratio_magnitude_ok h_1005) (by kernel_rfl) rfl) ?_
      refine mm_oneG 12 (.binOp .leq 65 (.tmp 14) (.const (.int .u64 (1000000000000))) 65) (some 15) 8 true (b := (decide (a1.Den ≤ 1000000))) (by kernel_rfl) (by kernel_rfl) (by kernel_rfl) h_1003 (oH_pure (B (decide (x_1004 ≤ 1000000000000))) (by kernel_rfl) rfl) ?_
      refine mm_one 13 (.pick (.tmp 11) (.tmp 15) (.const (.bool false))) (some 16) (by kernel_rfl) (by kernel_rfl) (oH_pure (B (decide (x_1004 ≤ 1000000000000))) (ev_pickT h_1003 (by kernel_rfl) (by kernel_rfl)) rfl) ?_
      refine mm_run 14 15 rfl (by kernel_rfl) ?_
      refine ite_both h (fun h_1006 h => ?_) (fun h_1006 h => ?_)
      · refine mm_oneG 15 (.fieldAddr 34 (.tmp 1) 0) (some 18) 14 true (b := (decide (x_1004 ≤ 1000000000000))) (by kernel_rfl) (by kernel_rfl) (by kernel_rfl) h_1006 (oH_pure (.ip (cs_Ratio a1)) (by kernel_rfl) rfl) ?_
        refine mm_oneG 16 (.load 3 (.tmp 18)) (some 19) 14 true (b := (decide (x_1004 ≤ 1000000000000))) (by kernel_rfl) (by kernel_rfl) (by kernel_rfl) h_1006 (oH_pure (I a1.Num) (by kernel_rfl) rfl) ?_
        obtain ⟨x_1007, h_1008, h⟩ := bind_some' h
        refine mm_oneG 17 (.call ⟨.value (.func 53), #[(.tmp 19)], #[3]⟩) (some 20) 14 true (b := (decide (x_1004 ≤ 1000000000000))) (by kernel_rfl) (by kernel_rfl) (by kernel_rfl) h_1006 (oH_callP (g_ratio_magnitude_ok h_1008) (by kernel_rfl) rfl) ?_
        refine mm_oneG 18 (.fieldAddr 34 (.tmp 1) 1) (some 21) 14 true (b := (decide (x_1004 ≤ 1000000000000))) (by kernel_rfl) (by kernel_rfl) (by kernel_rfl) h_1006 (oH_pure (.ip (((cs_Ratio a1)).drop 1)) (by kernel_rfl) rfl) ?_
        refine mm_oneG 19 (.load 3 (.tmp 21)) (some 22) 14 true (b := (decide (x_1004 ≤ 1000000000000))) (by kernel_rfl) (by kernel_rfl) (by kernel_rfl) h_1006 (oH_pure (I a1.Den) (by kernel_rfl) rfl) ?_
        obtain ⟨x_1009, h_1010, h⟩ := bind_some' h
        refine mm_oneG 20 (.call ⟨.value (.func 53), #[(.tmp 22)], #[3]⟩) (some 23) 14 true (b := (decide (x_1004 ≤ 1000000000000))) (by kernel_rfl) (by kernel_rfl) (by kernel_rfl) h_1006 (oH_callP (g_ratio_magnitude_ok h_1010) (by kernel_rfl) rfl) ?_
        refine mm_oneG 21 (.buildSlice 72 2 #[(0, (.tmp 20)), (1, (.tmp 23))]) (some 24) 14 true (b := (decide (x_1004 ≤ 1000000000000))) (by kernel_rfl) (by kernel_rfl) (by kernel_rfl) h_1006 (oH_pure (sl 1 cU64 [x_1007, x_1009]) (by kernel_rfl) rfl) ?_
        obtain ⟨x_1011, h_1012, h⟩ := bind_some' h
        refine mm_oneG 22 (.call ⟨.value (.func 54), #[(.tmp 24)], #[72]⟩) (some 25) 14 true (b := (decide (x_1004 ≤ 1000000000000))) (by kernel_rfl) (by kernel_rfl) (by kernel_rfl) h_1006 (oH_callP (g_ratio_common_ok h_1012) (by kernel_rfl) rfl) ?_
        refine mm_oneG 23 (.binOp .eql 65 (.tmp 25) (.const (.int .u64 (1))) 65) (some 26) 14 true (b := (decide (x_1004 ≤ 1000000000000))) (by kernel_rfl) (by kernel_rfl) (by kernel_rfl) h_1006 (oH_pure (B (x_1011 == 1)) (by kernel_rfl) rfl) ?_
        refine mm_one 24 (.pick (.tmp 17) (.tmp 26) (.const (.bool false))) (some 27) (by kernel_rfl) (by kernel_rfl) (oH_pure (B (x_1011 == 1)) (ev_pickT h_1006 (by kernel_rfl) (by kernel_rfl)) rfl) ?_
        refine mix_fin' hK_1001 ⟨[(2, B (x_1011 == 1))], [], 0⟩ (by kernel_rfl) (leB rfl) ?_
        refine w_ret ?_
        obtain rfl := ((Option.some.inj h).symm).symm
        exact ret_leaf (.inl rfl) ⟨[(2, B (x_1011 == 1))], [], 0⟩ (to_ren [] (leB rfl) (by kernel_rfl) (by kernel_rfl) (renE_of (by kernel_rfl) (by kernel_rfl)) trivial) [B (x_1011 == 1)] (by kernel_rfl) (by kernel_rfl) (leB rfl) (by kernel_rfl) trivial
      · refine mm_skip 15 (.fieldAddr 34 (.tmp 1) 0) (some 18) 14 true (b := (decide (x_1004 ≤ 1000000000000))) (by kernel_rfl) (by kernel_rfl) (by kernel_rfl) h_1006 rfl ?_
        refine mm_skip 16 (.load 3 (.tmp 18)) (some 19) 14 true (b := (decide (x_1004 ≤ 1000000000000))) (by kernel_rfl) (by kernel_rfl) (by kernel_rfl) h_1006 rfl ?_
        refine mm_skip 17 (.call ⟨.value (.func 53), #[(.tmp 19)], #[3]⟩) (some 20) 14 true (b := (decide (x_1004 ≤ 1000000000000))) (by kernel_rfl) (by kernel_rfl) (by kernel_rfl) h_1006 rfl ?_
        refine mm_skip 18 (.fieldAddr 34 (.tmp 1) 1) (some 21) 14 true (b := (decide (x_1004 ≤ 1000000000000))) (by kernel_rfl) (by kernel_rfl) (by kernel_rfl) h_1006 rfl ?_
        refine mm_skip 19 (.load 3 (.tmp 21)) (some 22) 14 true (b := (decide (x_1004 ≤ 1000000000000))) (by kernel_rfl) (by kernel_rfl) (by kernel_rfl) h_1006 rfl ?_
        refine mm_skip 20 (.call ⟨.value (.func 53), #[(.tmp 22)], #[3]⟩) (some 23) 14 true (b := (decide (x_1004 ≤ 1000000000000))) (by kernel_rfl) (by kernel_rfl) (by kernel_rfl) h_1006 rfl ?_
        refine mm_skip 21 (.buildSlice 72 2 #[(0, (.tmp 20)), (1, (.tmp 23))]) (some 24) 14 true (b := (decide (x_1004 ≤ 1000000000000))) (by kernel_rfl) (by kernel_rfl) (by kernel_rfl) h_1006 rfl ?_
        refine mm_skip 22 (.call ⟨.value (.func 54), #[(.tmp 24)], #[72]⟩) (some 25) 14 true (b := (decide (x_1004 ≤ 1000000000000))) (by kernel_rfl) (by kernel_rfl) (by kernel_rfl) h_1006 rfl ?_
        refine mm_skip 23 (.binOp .eql 65 (.tmp 25) (.const (.int .u64 (1))) 65) (some 26) 14 true (b := (decide (x_1004 ≤ 1000000000000))) (by kernel_rfl) (by kernel_rfl) (by kernel_rfl) h_1006 rfl ?_
        refine mm_one 24 (.pick (.tmp 17) (.tmp 26) (.const (.bool false))) (some 27) (by kernel_rfl) (by kernel_rfl) (oH_pure (B false) (ev_pickF h_1006 (by kernel_rfl) (by kernel_rfl)) rfl) ?_
        refine mix_fin' hK_1001 ⟨[(2, B false)], [], 0⟩ (by kernel_rfl) (leB rfl) ?_
        refine w_ret ?_
        obtain rfl := ((Option.some.inj h).symm).symm
        exact ret_leaf (.inl rfl) ⟨[(2, B false)], [], 0⟩ (to_ren [] (leB rfl) (by kernel_rfl) (by kernel_rfl) (renE_of (by kernel_rfl) (by kernel_rfl)) trivial) [B false] (by kernel_rfl) (by kernel_rfl) (leB rfl) (by kernel_rfl) trivial
    · refine mm_skip 9 (.fieldAddr 34 (.tmp 1) 0) (some 12) 8 true (b := (decide (a1.Den ≤ 1000000))) (by kernel_rfl) (by kernel_rfl) (by kernel_rfl) h_1003 rfl ?_
      refine mm_skip 10 (.load 3 (.tmp 12)) (some 13) 8 true (b := (decide (a1.Den ≤ 1000000))) (by kernel_rfl) (by kernel_rfl) (by kernel_rfl) h_1003 rfl ?_
      refine mm_skip 11 (.call ⟨.value (.func 53), #[(.tmp 13)], #[3]⟩) (some 14) 8 true (b := (decide (a1.Den ≤ 1000000))) (by kernel_rfl) (by kernel_rfl) (by kernel_rfl) h_1003 rfl ?_
      refine mm_skip 12 (.binOp .leq 65 (.tmp 14) (.const (.int .u64 (1000000000000))) 65) (some 15) 8 true (b := (decide (a1.Den ≤ 1000000))) (by kernel_rfl) (by kernel_rfl) (by kernel_rfl) h_1003 rfl ?_
      refine mm_one 13 (.pick (.tmp 11) (.tmp 15) (.const (.bool false))) (some 16) (by kernel_rfl) (by kernel_rfl) (oH_pure (B false) (ev_pickF h_1003 (by kernel_rfl) (by kernel_rfl)) rfl) ?_
      refine mm_run 14 15 rfl (by kernel_rfl) ?_
      refine mm_skip 15 (.fieldAddr 34 (.tmp 1) 0) (some 18) 14 true (b := false) (by kernel_rfl) (by kernel_rfl) (by kernel_rfl) rfl rfl ?_
      refine mm_skip 16 (.load 3 (.tmp 18)) (some 19) 14 true (b := false) (by kernel_rfl) (by kernel_rfl) (by kernel_rfl) rfl rfl ?_
      refine mm_skip 17 (.call ⟨.value (.func 53), #[(.tmp 19)], #[3]⟩) (some 20) 14 true (b := false) (by kernel_rfl) (by kernel_rfl) (by kernel_rfl) rfl rfl ?_
      refine mm_skip 18 (.fieldAddr 34 (.tmp 1) 1) (some 21) 14 true (b := false) (by kernel_rfl) (by kernel_rfl) (by kernel_rfl) rfl rfl ?_
      refine mm_skip 19 (.load 3 (.tmp 21)) (some 22) 14 true (b := false) (by kernel_rfl) (by kernel_rfl) (by kernel_rfl) rfl rfl ?_
      refine mm_skip 20 (.call ⟨.value (.func 53), #[(.tmp 22)], #[3]⟩) (some 23) 14 true (b := false) (by kernel_rfl) (by kernel_rfl) (by kernel_rfl) rfl rfl ?_
      refine mm_skip 21 (.buildSlice 72 2 #[(0, (.tmp 20)), (1, (.tmp 23))]) (some 24) 14 true (b := false) (by kernel_rfl) (by kernel_rfl) (by kernel_rfl) rfl rfl ?_
      refine mm_skip 22 (.call ⟨.value (.func 54), #[(.tmp 24)], #[72]⟩) (some 25) 14 true (b := false) (by kernel_rfl) (by kernel_rfl) (by kernel_rfl) rfl rfl ?_
      refine mm_skip 23 (.binOp .eql 65 (.tmp 25) (.const (.int .u64 (1))) 65) (some 26) 14 true (b := false) (by kernel_rfl) (by kernel_rfl) (by kernel_rfl) rfl rfl ?_
      refine mix_fin' hK_1001 ⟨[(2, B false)], [], 0⟩ (by kernel_rfl) (leB rfl) ?_
      refine w_ret ?_
      obtain rfl := ((Option.some.inj h).symm).symm
      exact ret_leaf (.inl rfl) ⟨[(2, B false)], [], 0⟩ (to_ren [] (leB rfl) (by kernel_rfl) (by kernel_rfl) (renE_of (by kernel_rfl) (by kernel_rfl)) trivial) [B false] (by kernel_rfl) (by kernel_rfl) (leB rfl) (by kernel_rfl) trivial
  · refine mm_skip 4 (.fieldAddr 34 (.tmp 1) 1) (some 7) 3 true (b := (decide (0 < a1.Den))) (by kernel_rfl) (by kernel_rfl) (by kernel_rfl) h_1002 rfl ?_
    refine mm_skip 5 (.load 3 (.tmp 7)) (some 8) 3 true (b := (decide (0 < a1.Den))) (by kernel_rfl) (by kernel_rfl) (by kernel_rfl) h_1002 rfl ?_
    refine mm_skip 6 (.binOp .leq 3 (.tmp 8) (.const (.int .i64 (1000000))) 3) (some 9) 3 true (b := (decide (0 < a1.Den))) (by kernel_rfl) (by kernel_rfl) (by kernel_rfl) h_1002 rfl ?_
    refine mm_one 7 (.pick (.tmp 6) (.tmp 9) (.const (.bool false))) (some 10) (by kernel_rfl) (by kernel_rfl) (oH_pure (B false) (ev_pickF h_1002 (by kernel_rfl) (by kernel_rfl)) rfl) ?_
    refine mm_run 8 9 rfl (by kernel_rfl) ?_
    refine mm_skip 9 (.fieldAddr 34 (.tmp 1) 0) (some 12) 8 true (b := false) (by kernel_rfl) (by kernel_rfl) (by kernel_rfl) rfl rfl ?_
    refine mm_skip 10 (.load 3 (.tmp 12)) (some 13) 8 true (b := false) (by kernel_rfl) (by kernel_rfl) (by kernel_rfl) rfl rfl ?_
    refine mm_skip 11 (.call ⟨.value (.func 53), #[(.tmp 13)], #[3]⟩) (some 14) 8 true (b := false) (by kernel_rfl) (by kernel_rfl) (by kernel_rfl) rfl rfl ?_
    refine mm_skip 12 (.binOp .leq 65 (.tmp 14) (.const (.int .u64 (1000000000000))) 65) (some 15) 8 true (b := false) (by kernel_rfl) (by kernel_rfl) (by kernel_rfl) rfl rfl ?_
    refine mm_run 13 15 rfl (by kernel_rfl) ?_
    refine mm_skip 15 (.fieldAddr 34 (.tmp 1) 0) (some 18) 14 true (b := false) (by kernel_rfl) (by kernel_rfl) (by kernel_rfl) rfl rfl ?_
    refine mm_skip 16 (.load 3 (.tmp 18)) (some 19) 14 true (b := false) (by kernel_rfl) (by kernel_rfl) (by kernel_rfl) rfl rfl ?_
    refine mm_skip 17 (.call ⟨.value (.func 53), #[(.tmp 19)], #[3]⟩) (some 20) 14 true (b := false) (by kernel_rfl) (by kernel_rfl) (by kernel_rfl) rfl rfl ?_
    refine mm_skip 18 (.fieldAddr 34 (.tmp 1) 1) (some 21) 14 true (b := false) (by kernel_rfl) (by kernel_rfl) (by kernel_rfl) rfl rfl ?_
    refine mm_skip 19 (.load 3 (.tmp 21)) (some 22) 14 true (b := false) (by kernel_rfl) (by kernel_rfl) (by kernel_rfl) rfl rfl ?_
    refine mm_skip 20 (.call ⟨.value (.func 53), #[(.tmp 22)], #[3]⟩) (some 23) 14 true (b := false) (by kernel_rfl) (by kernel_rfl) (by kernel_rfl) rfl rfl ?_
    refine mm_skip 21 (.buildSlice 72 2 #[(0, (.tmp 20)), (1, (.tmp 23))]) (some 24) 14 true (b := false) (by kernel_rfl) (by kernel_rfl) (by kernel_rfl) rfl rfl ?_
    refine mm_skip 22 (.call ⟨.value (.func 54), #[(.tmp 24)], #[72]⟩) (some 25) 14 true (b := false) (by kernel_rfl) (by kernel_rfl) (by kernel_rfl) rfl rfl ?_
    refine mm_skip 23 (.binOp .eql 65 (.tmp 25) (.const (.int .u64 (1))) 65) (some 26) 14 true (b := false) (by kernel_rfl) (by kernel_rfl) (by kernel_rfl) rfl rfl ?_
    refine mix_fin' hK_1001 ⟨[(2, B false)], [], 0⟩ (by kernel_rfl) (leB rfl) ?_
    refine w_ret ?_
    obtain rfl := ((Option.some.inj h).symm).symm
    exact ret_leaf (.inl rfl) ⟨[(2, B false)], [], 0⟩ (to_ren [] (leB rfl) (by kernel_rfl) (by kernel_rfl) (renE_of (by kernel_rfl) (by kernel_rfl)) trivial) [B false] (by kernel_rfl) (by kernel_rfl) (leB rfl) (by kernel_rfl) trivial
/-- estoppel/ratio.reduced -/
def g_ratio_reduced (a1 : Bool) (a2 : Int) (a3 : Int) : Option (D.Ratio × Int) :=
  (g_ratio_common [a2, a3]).bind fun x_1078 =>
  (quoO .u64 a2 x_1078).bind fun x_1093 =>
  (quoO .u64 a3 x_1078).bind fun x_1097 =>
  bindF (ρ := Bool) (
  if (decide (x_1093 > 1000000000000)) = true then
  some (.inl true)
  else
  some (.inl (decide (x_1097 > 1000000)))) (fun (e_1108 : Bool) =>
  if e_1108 = true then
  some ((D.Ratio.mk 0 0), 2)
  else
  if a1 = true then
  some ((D.Ratio.mk (IntKind.i64.wrap (0 - (IntKind.i64.wrap x_1093))) (IntKind.i64.wrap x_1097)), 0)
  else
  some ((D.Ratio.mk (IntKind.i64.wrap x_1093) (IntKind.i64.wrap x_1097)), 0))
set_option maxHeartbeats 4000000 in
theorem g_ratio_reduced_ok {a1 : Bool} {a2 : Int} {a3 : Int} {res : D.Ratio × Int} (h : g_ratio_reduced a1 a2 a3 = some res) : SpecK Try.prog [] 57 [B a1, .s (.int .u64 a2), .s (.int .u64 a3)] [] 0 (.tup [.agg (cs_Ratio res.1), I res.2]) [] 0 := by
  refine ⟨spec_of_wp Try.func57 (by kernel_rfl) rfl Try.ntmps57 (by rw [Try.results57]) (leB rfl) ?_, by kernel_rfl, trivial, by kernel_rfl, trivial, by kernel_rfl⟩
  unfold g_ratio_reduced at h
  refine w_reg ⟨[(0, B a1), (1, .s (.int .u64 a2)), (2, .s (.int .u64 a3)), (6, .ptr 0 0)], [(0, ⟨34, 0, [I 0, I 0]⟩)], 1⟩ (by kernel_rfl) (leB rfl) ?_
  refine w_seq (fun K hK_1077 => w_reg0 ?_)
  refine dd_run 0 3 rfl (by kernel_rfl) ?_
  obtain ⟨x_1078, h_1079, h⟩ := bind_some' h
  refine dd_one 3 (.call ⟨.value (.func 54), #[(.tmp 11)], #[72]⟩) (some 12) (by kernel_rfl) (o_callP (g_ratio_common_ok h_1079) (by kernel_rfl) rfl) ?_
  refine ops_fin' hK_1077 ⟨[(0, B a1), (1, .s (.int .u64 a2)), (2, .s (.int .u64 a3)), (6, .ptr 0 0), (8, .s (.int .u64 x_1078))], [(0, ⟨34, 0, [I 0, I 0]⟩)], 1⟩ (by kernel_rfl) (leB rfl) ?_
  refine w_seq (fun K hK_1090 => w_mix0 (by kernel_rfl) (by kernel_rfl) ?_)
  refine mm_run 0 2 rfl (by kernel_rfl) ?_
  obtain ⟨x_1093, h_1094, h⟩ := bind_some' h
  refine mm_one 2 (.binOp .quo 65 (.tmp 13) (.tmp 14) 65) (some 15) (by kernel_rfl) (by kernel_rfl) (oH_pure (.s (.int .u64 x_1093)) (ev_quo h_1094 (by kernel_rfl) (by kernel_rfl)) rfl) ?_
  refine mm_run 3 5 rfl (by kernel_rfl) ?_
  obtain ⟨x_1097, h_1098, h⟩ := bind_some' h
  refine mm_one 5 (.binOp .quo 65 (.tmp 16) (.tmp 17) 65) (some 18) (by kernel_rfl) (by kernel_rfl) (oH_pure (.s (.int .u64 x_1097)) (ev_quo h_1098 (by kernel_rfl) (by kernel_rfl)) rfl) ?_
  refine mix_fin' hK_1090 ⟨[(0, B a1), (1, .s (.int .u64 x_1093)), (2, .s (.int .u64 x_1097)), (6, .ptr 0 0)], [(0, ⟨34, 0, [I 0, I 0]⟩)], 1⟩ (by kernel_rfl) (leB rfl) ?_
  refine w_seq (fun K hK_1106 => ?_)
  refine w_block ?_
  refine w_cut h (fun (e_1108 : Bool) => ⟨[(0, B a1), (1, .s (.int .u64 x_1093)), (2, .s (.int .u64 x_1097)), (6, .ptr 0 0), (19, B e_1108)], [(0, ⟨34, 0, [I 0, I 0]⟩)], 1⟩) (fun o h h_1109 K hK_1110 => ?_) (fun e_1108 h => ?_)
  · refine w_reg0 ?_
    refine dd_run 0 3 rfl (by kernel_rfl) ?_
    refine ite_both h (fun h_1111 h => ?_) (fun h_1111 h => ?_)
    · refine dd_skip 3 5 2 false rfl (b := (decide (x_1093 > 1000000000000))) (by kernel_rfl) h_1111 (by kernel_rfl) ?_
      refine dd_one 5 (.pick (.tmp 22) (.const (.bool true)) (.tmp 24)) (some 25) (by kernel_rfl) (o_pure (B true) (ev_pickT h_1111 (by kernel_rfl) (by kernel_rfl)) rfl) ?_
      refine dd_run 6 7 rfl (by kernel_rfl) ?_
      refine dd_nil 7 rfl ?_
      exact hK_1110 _ _ (Option.some.inj h).symm (to_ren [] (leB rfl) (by kernel_rfl) (by kernel_rfl) (renE_of (by kernel_rfl) (by kernel_rfl)) ⟨reRn (by kernel_rfl) (leB rfl) (by kernel_rfl), trivial⟩)
    · refine dd_runG 3 5 2 false rfl (b := (decide (x_1093 > 1000000000000))) (by kernel_rfl) h_1111 (by kernel_rfl) ?_
      refine dd_one 5 (.pick (.tmp 22) (.const (.bool true)) (.tmp 24)) (some 25) (by kernel_rfl) (o_pure (B (decide (x_1097 > 1000000))) (ev_pickF h_1111 (by kernel_rfl) (by kernel_rfl)) rfl) ?_
      refine dd_run 6 7 rfl (by kernel_rfl) ?_
      refine dd_nil 7 rfl ?_
      exact hK_1110 _ _ (Option.some.inj h).symm (to_ren [] (leB rfl) (by kernel_rfl) (by kernel_rfl) (renE_of (by kernel_rfl) (by kernel_rfl)) ⟨reRn (by kernel_rfl) (leB rfl) (by kernel_rfl), trivial⟩)
  · refine w_ite h (by kernel_rfl) (fun h_1112 h => ?_) (fun h_1112 h => ?_)
    · refine w_reg ⟨[(6, .ptr 0 0), (7, I 2)], [(0, ⟨34, 0, [I 0, I 0]⟩)], 1⟩ (by kernel_rfl) (leB rfl) ?_
      refine w_ret ?_
      obtain rfl := ((Option.some.inj h).symm).symm
      exact ret_leaf (.inl rfl) ⟨[(6, .ptr 0 0), (7, I 2)], [(0, ⟨34, 0, (cs_Ratio (D.Ratio.mk 0 0))⟩)], 1⟩ (to_ren [] (leB rfl) (by kernel_rfl) (by kernel_rfl) (renE_of (by kernel_rfl) (by kernel_rfl)) ⟨reRn (by kernel_rfl) (leB rfl) (by kernel_rfl), trivial⟩) [.agg (cs_Ratio (D.Ratio.mk 0 0)), I 2] (by kernel_rfl) (by kernel_rfl) (leB rfl) (by kernel_rfl) trivial
    · refine w_reg ⟨[(1, .s (.int .u64 x_1093)), (2, .s (.int .u64 x_1097)), (6, .ptr 0 0), (27, B a1)], [(0, ⟨34, 0, [I 0, I 0]⟩)], 1⟩ (by kernel_rfl) (leB rfl) ?_
      refine w_ite h (by kernel_rfl) (fun h_1113 h => ?_) (fun h_1113 h => ?_)
      · refine w_reg ⟨[(6, .ptr 0 0), (7, I 0)], [(0, ⟨34, 0, [I (IntKind.i64.wrap (0 - (IntKind.i64.wrap x_1093))), I (IntKind.i64.wrap x_1097)]⟩)], 1⟩ (by kernel_rfl) (leB rfl) ?_
        refine w_ret ?_
        obtain rfl := ((Option.some.inj h).symm).symm
        exact ret_leaf (.inl rfl) ⟨[(6, .ptr 0 0), (7, I 0)], [(0, ⟨34, 0, (cs_Ratio (D.Ratio.mk (IntKind.i64.wrap (0 - (IntKind.i64.wrap x_1093))) (IntKind.i64.wrap x_1097)))⟩)], 1⟩ (to_ren [] (leB rfl) (by kernel_rfl) (by kernel_rfl) (renE_of (by kernel_rfl) (by kernel_rfl)) ⟨reRn (by kernel_rfl) (leB rfl) (by kernel_rfl), trivial⟩) [.agg (cs_Ratio (D.Ratio.mk (IntKind.i64.wrap (0 - (IntKind.i64.wrap x_1093))) (IntKind.i64.wrap x_1097))), I 0] (by kernel_rfl) (by kernel_rfl) (leB rfl) (by kernel_rfl) trivial
      · refine w_skip ?_
        refine hK_1106 _ ⟨[(1, .s (.int .u64 x_1093)), (2, .s (.int .u64 x_1097)), (6, .ptr 0 0)], [(0, ⟨34, 0, [I 0, I 0]⟩)], 1⟩ (to_trim (by kernel_rfl) (leB rfl)) ?_
        refine w_reg ⟨[(6, .ptr 0 0), (7, I 0)], [(0, ⟨34, 0, [I (IntKind.i64.wrap x_1093), I (IntKind.i64.wrap x_1097)]⟩)], 1⟩ (by kernel_rfl) (leB rfl) ?_
        refine w_ret ?_
        obtain rfl := ((Option.some.inj h).symm).symm
        exact ret_leaf (.inl rfl) ⟨[(6, .ptr 0 0), (7, I 0)], [(0, ⟨34, 0, (cs_Ratio (D.Ratio.mk (IntKind.i64.wrap x_1093) (IntKind.i64.wrap x_1097)))⟩)], 1⟩ (to_ren [] (leB rfl) (by kernel_rfl) (by kernel_rfl) (renE_of (by kernel_rfl) (by kernel_rfl)) ⟨reRn (by kernel_rfl) (leB rfl) (by kernel_rfl), trivial⟩) [.agg (cs_Ratio (D.Ratio.mk (IntKind.i64.wrap x_1093) (IntKind.i64.wrap x_1097))), I 0] (by kernel_rfl) (by kernel_rfl) (leB rfl) (by kernel_rfl) trivial
/-- estoppel/ratio.Make -/
def g_ratio_Make (a1 : Int) (a2 : Int) : Option (D.Ratio × Int) :=
  if (a2 == 0) = true then
  some ((D.Ratio.mk 0 0), 1)
  else
  (g_ratio_magnitude a1).bind fun x_1133 =>
  (g_ratio_magnitude a2).bind fun x_1135 =>
  (g_ratio_reduced (!((decide (a1 < 0)) == (decide (a2 < 0)))) x_1133 x_1135).bind fun x_1137 =>
  some (x_1137.1, x_1137.2)
set_option maxHeartbeats 4000000 in
theorem g_ratio_Make_ok {a1 : Int} {a2 : Int} {res : D.Ratio × Int} (h : g_ratio_Make a1 a2 = some res) : SpecK Try.prog [] 47 [I a1, I a2] [] 0 (.tup [.agg (cs_Ratio res.1), I res.2]) [] 0 := by
  refine ⟨spec_of_wp Try.func47 (by kernel_rfl) rfl Try.ntmps47 (by rw [Try.results47]) (leB rfl) ?_, by kernel_rfl, trivial, by kernel_rfl, trivial, by kernel_rfl⟩
  unfold g_ratio_Make at h
  refine w_reg ⟨[(0, I a1), (1, I a2), (4, .ptr 0 0)], [(0, ⟨34, 0, [I 0, I 0]⟩)], 1⟩ (by kernel_rfl) (leB rfl) ?_
  refine w_assoc ?_
  refine w_reg ⟨[(0, I a1), (1, I a2), (4, .ptr 0 0), (7, B (a2 == 0))], [(0, ⟨34, 0, [I 0, I 0]⟩)], 1⟩ (by kernel_rfl) (leB rfl) ?_
  refine w_seq (fun K hK_1124 => ?_)
  refine w_ite h (by kernel_rfl) (fun h_1125 h => ?_) (fun h_1125 h => ?_)
  · refine w_reg ⟨[(4, .ptr 0 0), (5, I 1)], [(0, ⟨34, 0, [I 0, I 0]⟩)], 1⟩ (by kernel_rfl) (leB rfl) ?_
    refine w_ret ?_
    obtain rfl := ((Option.some.inj h).symm).symm
    exact ret_leaf (.inl rfl) ⟨[(4, .ptr 0 0), (5, I 1)], [(0, ⟨34, 0, (cs_Ratio (D.Ratio.mk 0 0))⟩)], 1⟩ (to_ren [] (leB rfl) (by kernel_rfl) (by kernel_rfl) (renE_of (by kernel_rfl) (by kernel_rfl)) ⟨reRn (by kernel_rfl) (leB rfl) (by kernel_rfl), trivial⟩) [.agg (cs_Ratio (D.Ratio.mk 0 0)), I 1] (by kernel_rfl) (by kernel_rfl) (leB rfl) (by kernel_rfl) trivial
  · refine w_skip ?_
    refine hK_1124 _ ⟨[(0, I a1), (1, I a2), (4, .ptr 0 0)], [(0, ⟨34, 0, [I 0, I 0]⟩)], 1⟩ (to_trim (by kernel_rfl) (leB rfl)) ?_
    refine w_seq (fun K hK_1132 => w_reg0 ?_)
    refine dd_run 0 6 rfl (by kernel_rfl) ?_
    obtain ⟨x_1133, h_1134, h⟩ := bind_some' h
    refine dd_one 6 (.call ⟨.value (.func 53), #[(.tmp 14)], #[3]⟩) (some 15) (by kernel_rfl) (o_callP (g_ratio_magnitude_ok h_1134) (by kernel_rfl) rfl) ?_
    refine dd_run 7 8 rfl (by kernel_rfl) ?_
    obtain ⟨x_1135, h_1136, h⟩ := bind_some' h
    refine dd_one 8 (.call ⟨.value (.func 53), #[(.tmp 16)], #[3]⟩) (some 17) (by kernel_rfl) (o_callP (g_ratio_magnitude_ok h_1136) (by kernel_rfl) rfl) ?_
    obtain ⟨x_1137, h_1138, h⟩ := bind_some' h
    refine dd_one 9 (.call ⟨.value (.func 57), #[(.tmp 13), (.tmp 15), (.tmp 17)], #[4, 65, 65]⟩) (some 18) (by kernel_rfl) (o_callP (g_ratio_reduced_ok h_1138) (by kernel_rfl) rfl) ?_
    refine ops_fin' hK_1132 ⟨[(4, .ptr 0 0), (5, I x_1137.2)], [(0, ⟨34, 0, (cs_Ratio x_1137.1)⟩)], 1⟩ (by kernel_rfl) (leB rfl) ?_
    refine w_ret ?_
    obtain rfl := ((Option.some.inj h).symm).symm
    exact ret_leaf (.inl rfl) ⟨[(4, .ptr 0 0), (5, I x_1137.2)], [(0, ⟨34, 0, (cs_Ratio x_1137.1)⟩)], 1⟩ (to_ren [] (leB rfl) (by kernel_rfl) (by kernel_rfl) (renE_of (by kernel_rfl) (by kernel_rfl)) ⟨reRn (by kernel_rfl) (leB rfl) (by kernel_rfl), trivial⟩) [.agg (cs_Ratio x_1137.1), I x_1137.2] (by kernel_rfl) (by kernel_rfl) (leB rfl) (by kernel_rfl) trivial
/-- estoppel/ratio.Add$1 -/
def g_ratio_Add_1 (a1 : D.Ratio) (a2 : D.Ratio) : Option (D.Ratio × Int) :=
  (g_ratio_Make (IntKind.i64.wrap ((IntKind.i64.wrap (a1.Num * a2.Den)) + (IntKind.i64.wrap (a2.Num * a1.Den)))) (IntKind.i64.wrap (a1.Den * a2.Den))).bind fun x_1147 =>
  some (x_1147.1, x_1147.2)
set_option maxHeartbeats 4000000 in
theorem g_ratio_Add_1_ok {a1 : D.Ratio} {a2 : D.Ratio} {res : D.Ratio × Int} (h : g_ratio_Add_1 a1 a2 = some res) : SpecK Try.prog [] 46 [.ip (cs_Ratio a1), .ip (cs_Ratio a2)] [] 0 (.tup [.agg (cs_Ratio res.1), I res.2]) [] 0 := by
  refine ⟨spec_of_wp Try.func46 (by kernel_rfl) rfl Try.ntmps46 (by rw [Try.results46]) (leB rfl) ?_, by kernel_rfl, trivial, by kernel_rfl, trivial, by kernel_rfl⟩
  unfold g_ratio_Add_1 at h
  refine w_reg ⟨[(0, .ip (cs_Ratio a1)), (1, .ip (cs_Ratio a2)), (2, .ptr 0 0)], [(0, ⟨34, 0, [I 0, I 0]⟩)], 1⟩ (by kernel_rfl) (leB rfl) ?_
  refine w_seq (fun K hK_1146 => w_reg0 ?_)
  refine dd_run 0 16 rfl (by kernel_rfl) ?_
  obtain ⟨x_1147, h_1148, h⟩ := bind_some' h
  refine dd_one 16 (.call ⟨.value (.func 47), #[(.tmp 14), (.tmp 19)], #[3, 3]⟩) (some 20) (by kernel_rfl) (o_callP (g_ratio_Make_ok h_1148) (by kernel_rfl) rfl) ?_
  refine ops_fin' hK_1146 ⟨[(2, .ptr 0 0), (3, I x_1147.2)], [(0, ⟨34, 0, (cs_Ratio x_1147.1)⟩)], 1⟩ (by kernel_rfl) (leB rfl) ?_
  refine w_ret ?_
  obtain rfl := ((Option.some.inj h).symm).symm
  exact ret_leaf (.inl rfl) ⟨[(2, .ptr 0 0), (3, I x_1147.2)], [(0, ⟨34, 0, (cs_Ratio x_1147.1)⟩)], 1⟩ (to_ren [] (leB rfl) (by kernel_rfl) (by kernel_rfl) (renE_of (by kernel_rfl) (by kernel_rfl)) ⟨reRn (by kernel_rfl) (leB rfl) (by kernel_rfl), trivial⟩) [.agg (cs_Ratio x_1147.1), I x_1147.2] (by kernel_rfl) (by kernel_rfl) (leB rfl) (by kernel_rfl) trivial
/-- estoppel/ratio.on -/
def g_ratio_on_Add_1 (a1 : D.Ratio) (a2 : D.Ratio) (a3 : D.Ratio) (a4 : D.Ratio) : Option (D.Ratio × Int) :=
  bindF (ρ := Bool) (
  (g_ratio_Valid a1).bind fun x_1162 =>
  if (!x_1162) = true then
  some (.inl true)
  else
  (g_ratio_Valid a2).bind fun x_1165 =>
  some (.inl (!x_1165))) (fun (e_1159 : Bool) =>
  if e_1159 = true then
  some ((D.Ratio.mk 0 0), 1)
  else
  (g_ratio_Add_1 a3 a4).bind fun x_1173 =>
  some (x_1173.1, x_1173.2))
set_option maxHeartbeats 4000000 in
theorem g_ratio_on_Add_1_ok {a1 : D.Ratio} {a2 : D.Ratio} {a3 : D.Ratio} {a4 : D.Ratio} {res : D.Ratio × Int} (h : g_ratio_on_Add_1 a1 a2 a3 a4 = some res) : SpecK Try.prog [] 45 [.agg (cs_Ratio a1), .agg (cs_Ratio a2), .fn 46 [.ip (cs_Ratio a3), .ip (cs_Ratio a4)]] [] 0 (.tup [.agg (cs_Ratio res.1), I res.2]) [] 0 := by
  refine ⟨spec_of_wp Try.func45 (by kernel_rfl) rfl Try.ntmps45 (by rw [Try.results45]) (leB rfl) ?_, by kernel_rfl, trivial, by kernel_rfl, trivial, by kernel_rfl⟩
  unfold g_ratio_on_Add_1 at h
  refine w_reg ⟨[(2, .fn 46 [.ip (cs_Ratio a3), .ip (cs_Ratio a4)]), (3, .ip (cs_Ratio a1)), (4, .ip (cs_Ratio a2)), (6, .ptr 0 0)], [(0, ⟨34, 0, [I 0, I 0]⟩)], 1⟩ (by kernel_rfl) (leB rfl) ?_
  refine w_assoc ?_
  refine w_cut h (fun (e_1159 : Bool) => ⟨[(2, .fn 46 [.ip (cs_Ratio a3), .ip (cs_Ratio a4)]), (6, .ptr 0 0), (15, B e_1159)], [(0, ⟨34, 0, [I 0, I 0]⟩)], 1⟩) (fun o h h_1160 K hK_1161 => ?_) (fun e_1159 h => ?_)
  · refine w_reg0 ?_
    refine dd_run 0 1 rfl (by kernel_rfl) ?_
    obtain ⟨x_1162, h_1163, h⟩ := bind_some' h
    refine dd_one 1 (.call ⟨.value (.func 43), #[(.tmp 8)], #[34]⟩) (some 9) (by kernel_rfl) (o_callP (g_ratio_Valid_ok h_1163) (by kernel_rfl) rfl) ?_
    refine dd_run 2 4 rfl (by kernel_rfl) ?_
    refine ite_both h (fun h_1164 h => ?_) (fun h_1164 h => ?_)
    · refine dd_skip 4 7 3 false rfl (b := (!x_1162)) (by kernel_rfl) h_1164 (by kernel_rfl) ?_
      refine dd_one 7 (.pick (.tmp 11) (.const (.bool true)) (.tmp 14)) (some 15) (by kernel_rfl) (o_pure (B true) (ev_pickT h_1164 (by kernel_rfl) (by kernel_rfl)) rfl) ?_
      refine dd_nil 8 rfl ?_
      exact hK_1161 _ _ (Option.some.inj h).symm (to_ren [] (leB rfl) (by kernel_rfl) (by kernel_rfl) (renE_of (by kernel_rfl) (by kernel_rfl)) ⟨reRn (by kernel_rfl) (leB rfl) (by kernel_rfl), trivial⟩)
    · refine dd_runG 4 5 3 false rfl (b := (!x_1162)) (by kernel_rfl) h_1164 (by kernel_rfl) ?_
      obtain ⟨x_1165, h_1166, h⟩ := bind_some' h
      refine dd_oneG 5 (.call ⟨.value (.func 43), #[(.tmp 12)], #[34]⟩) (some 13) 3 false (b := (!x_1162)) (by kernel_rfl) (by kernel_rfl) h_1164 (o_callP (g_ratio_Valid_ok h_1166) (by kernel_rfl) rfl) ?_
      refine dd_runG 6 7 3 false rfl (b := (!x_1162)) (by kernel_rfl) h_1164 (by kernel_rfl) ?_
      refine dd_one 7 (.pick (.tmp 11) (.const (.bool true)) (.tmp 14)) (some 15) (by kernel_rfl) (o_pure (B (!x_1165)) (ev_pickF h_1164 (by kernel_rfl) (by kernel_rfl)) rfl) ?_
      refine dd_nil 8 rfl ?_
      exact hK_1161 _ _ (Option.some.inj h).symm (to_ren [] (leB rfl) (by kernel_rfl) (by kernel_rfl) (renE_of (by kernel_rfl) (by kernel_rfl)) ⟨reRn (by kernel_rfl) (leB rfl) (by kernel_rfl), trivial⟩)
  · refine w_seq (fun K hK_1168 => ?_)
    refine w_ite h (by kernel_rfl) (fun h_1169 h => ?_) (fun h_1169 h => ?_)
    · refine w_reg ⟨[(6, .ptr 0 0), (7, I 1)], [(0, ⟨34, 0, [I 0, I 0]⟩)], 1⟩ (by kernel_rfl) (leB rfl) ?_
      refine w_ret ?_
      obtain rfl := ((Option.some.inj h).symm).symm
      exact ret_leaf (.inl rfl) ⟨[(6, .ptr 0 0), (7, I 1)], [(0, ⟨34, 0, (cs_Ratio (D.Ratio.mk 0 0))⟩)], 1⟩ (to_ren [] (leB rfl) (by kernel_rfl) (by kernel_rfl) (renE_of (by kernel_rfl) (by kernel_rfl)) ⟨reRn (by kernel_rfl) (leB rfl) (by kernel_rfl), trivial⟩) [.agg (cs_Ratio (D.Ratio.mk 0 0)), I 1] (by kernel_rfl) (by kernel_rfl) (leB rfl) (by kernel_rfl) trivial
    · refine w_skip ?_
      refine hK_1168 _ ⟨[(2, .fn 46 [.ip (cs_Ratio a3), .ip (cs_Ratio a4)]), (6, .ptr 0 0)], [(0, ⟨34, 0, [I 0, I 0]⟩)], 1⟩ (to_trim (by kernel_rfl) (leB rfl)) ?_
      refine w_seq (fun K hK_1172 => w_reg0 ?_)
      refine dd_run 0 1 rfl (by kernel_rfl) ?_
      obtain ⟨x_1173, h_1174, h⟩ := bind_some' h
      refine dd_one 1 (.call ⟨.value (.tmp 17), #[], #[]⟩) (some 18) (by kernel_rfl) (o_callP (g_ratio_Add_1_ok h_1174) (by kernel_rfl) rfl) ?_
      refine ops_fin' hK_1172 ⟨[(6, .ptr 0 0), (7, I x_1173.2)], [(0, ⟨34, 0, (cs_Ratio x_1173.1)⟩)], 1⟩ (by kernel_rfl) (leB rfl) ?_
      refine w_ret ?_
      obtain rfl := ((Option.some.inj h).symm).symm
      exact ret_leaf (.inl rfl) ⟨[(6, .ptr 0 0), (7, I x_1173.2)], [(0, ⟨34, 0, (cs_Ratio x_1173.1)⟩)], 1⟩ (to_ren [] (leB rfl) (by kernel_rfl) (by kernel_rfl) (renE_of (by kernel_rfl) (by kernel_rfl)) ⟨reRn (by kernel_rfl) (leB rfl) (by kernel_rfl), trivial⟩) [.agg (cs_Ratio x_1173.1), I x_1173.2] (by kernel_rfl) (by kernel_rfl) (leB rfl) (by kernel_rfl) trivial
/-- estoppel/ratio.Add -/
def g_ratio_Add (a1 : D.Ratio) (a2 : D.Ratio) : Option (D.Ratio × Int) :=
  (g_ratio_on_Add_1 a1 a2 a1 a2).bind fun x_1183 =>
  some (x_1183.1, x_1183.2)
set_option maxHeartbeats 4000000 in
theorem g_ratio_Add_ok {a1 : D.Ratio} {a2 : D.Ratio} {res : D.Ratio × Int} (h : g_ratio_Add a1 a2 = some res) : SpecK Try.prog [] 20 [.agg (cs_Ratio a1), .agg (cs_Ratio a2)] [] 0 (.tup [.agg (cs_Ratio res.1), I res.2]) [] 0 := by
  refine ⟨spec_of_wp Try.func20 (by kernel_rfl) rfl Try.ntmps20 (by rw [Try.results20]) (leB rfl) ?_, by kernel_rfl, trivial, by kernel_rfl, trivial, by kernel_rfl⟩
  unfold g_ratio_Add at h
  refine w_reg ⟨[(2, .ip (cs_Ratio a1)), (3, .ip (cs_Ratio a2)), (4, .ptr 0 0)], [(0, ⟨34, 0, [I 0, I 0]⟩)], 1⟩ (by kernel_rfl) (leB rfl) ?_
  refine w_seq (fun K hK_1182 => w_reg0 ?_)
  refine dd_run 0 3 rfl (by kernel_rfl) ?_
  obtain ⟨x_1183, h_1184, h⟩ := bind_some' h
  refine dd_one 3 (.call ⟨.value (.func 45), #[(.tmp 6), (.tmp 7), (.tmp 8)], #[34, 34, 61]⟩) (some 9) (by kernel_rfl) (o_callP (g_ratio_on_Add_1_ok h_1184) (by kernel_rfl) rfl) ?_
  refine ops_fin' hK_1182 ⟨[(4, .ptr 0 0), (5, I x_1183.2)], [(0, ⟨34, 0, (cs_Ratio x_1183.1)⟩)], 1⟩ (by kernel_rfl) (leB rfl) ?_
  refine w_ret ?_
  obtain rfl := ((Option.some.inj h).symm).symm
  exact ret_leaf (.inl rfl) ⟨[(4, .ptr 0 0), (5, I x_1183.2)], [(0, ⟨34, 0, (cs_Ratio x_1183.1)⟩)], 1⟩ (to_ren [] (leB rfl) (by kernel_rfl) (by kernel_rfl) (renE_of (by kernel_rfl) (by kernel_rfl)) ⟨reRn (by kernel_rfl) (leB rfl) (by kernel_rfl), trivial⟩) [.agg (cs_Ratio x_1183.1), I x_1183.2] (by kernel_rfl) (by kernel_rfl) (leB rfl) (by kernel_rfl) trivial
/-- estoppel/ratio.Sub -/
def g_ratio_Sub (a1 : D.Ratio) (a2 : D.Ratio) : Option (D.Ratio × Int) :=
  (g_ratio_Add a1 (D.Ratio.mk (IntKind.i64.wrap (0 - a2.Num)) a2.Den)).bind fun x_1193 =>
  some (x_1193.1, x_1193.2)
set_option maxHeartbeats 4000000 in
theorem g_ratio_Sub_ok {a1 : D.Ratio} {a2 : D.Ratio} {res : D.Ratio × Int} (h : g_ratio_Sub a1 a2 = some res) : SpecK Try.prog [] 36 [.agg (cs_Ratio a1), .agg (cs_Ratio a2)] [] 0 (.tup [.agg (cs_Ratio res.1), I res.2]) [] 0 := by
  refine ⟨spec_of_wp Try.func36 (by kernel_rfl) rfl Try.ntmps36 (by rw [Try.results36]) (leB rfl) ?_, by kernel_rfl, trivial, by kernel_rfl, trivial, by kernel_rfl⟩
  unfold g_ratio_Sub at h
  refine w_reg ⟨[(2, .ip (cs_Ratio a1)), (3, .ip (cs_Ratio a2)), (4, .ptr 0 0)], [(0, ⟨34, 0, [I 0, I 0]⟩)], 1⟩ (by kernel_rfl) (leB rfl) ?_
  refine w_seq (fun K hK_1192 => w_reg0 ?_)
  refine dd_run 0 7 rfl (by kernel_rfl) ?_
  obtain ⟨x_1193, h_1194, h⟩ := bind_some' h
  refine dd_one 7 (.call ⟨.value (.func 20), #[(.tmp 6), (.tmp 12)], #[34, 34]⟩) (some 13) (by kernel_rfl) (o_callP (g_ratio_Add_ok h_1194) (by kernel_rfl) rfl) ?_
  refine ops_fin' hK_1192 ⟨[(4, .ptr 0 0), (5, I x_1193.2)], [(0, ⟨34, 0, (cs_Ratio x_1193.1)⟩)], 1⟩ (by kernel_rfl) (leB rfl) ?_
  refine w_ret ?_
  obtain rfl := ((Option.some.inj h).symm).symm
  exact ret_leaf (.inl rfl) ⟨[(4, .ptr 0 0), (5, I x_1193.2)], [(0, ⟨34, 0, (cs_Ratio x_1193.1)⟩)], 1⟩ (to_ren [] (leB rfl) (by kernel_rfl) (by kernel_rfl) (renE_of (by kernel_rfl) (by kernel_rfl)) ⟨reRn (by kernel_rfl) (leB rfl) (by kernel_rfl), trivial⟩) [.agg (cs_Ratio x_1193.1), I x_1193.2] (by kernel_rfl) (by kernel_rfl) (leB rfl) (by kernel_rfl) trivial
end Go.Proofs.Ytgggekjhfdkgkaa.Ab
