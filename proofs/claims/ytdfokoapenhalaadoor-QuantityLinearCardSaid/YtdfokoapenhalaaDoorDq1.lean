/- Functions of the program as plain functions (printed by wip/dec.py). -/
import Derived.Test.YtdfokoapenhalaaDoorDqT
namespace Go.Proofs.YtdfokoapenhalaaDoor.Ab
open Go Go.RowKit Go.Shelf
/-- estoppel/ratio.magnitude[int] -/
def g_ratio_magnitude (a1 : Int) : Option (Int) :=
  if (decide (a1 < 0)) = true then
  some (IntKind.u64.wrap (0 - (IntKind.u64.wrap a1)))
  else
  some (IntKind.u64.wrap a1)
set_option maxHeartbeats 4000000 in
theorem g_ratio_magnitude_ok {a1 : Int} {res : Int} (h : g_ratio_magnitude a1 = some res) : SpecK Tryd.prog [] 45 [I a1] [] 0 (.s (.int .u64 res)) [] 0 := by
  refine ⟨spec_of_wp Tryd.func45 (by kernel_rfl) rfl Tryd.ntmps45 (by rw [Tryd.results45]) (leB rfl) ?_, by kernel_rfl, trivial, by kernel_rfl, trivial, by kernel_rfl⟩
  unfold g_ratio_magnitude at h
  refine w_reg ⟨[(0, I a1)], [], 0⟩ (by kernel_rfl) (leB rfl) ?_
  refine w_assoc ?_
  refine w_reg ⟨[(0, I a1), (4, B (decide (a1 < 0)))], [], 0⟩ (by kernel_rfl) (leB rfl) ?_
  refine w_seq (fun K hK_7 => ?_)
  refine w_ite h (by kernel_rfl) (fun h_8 h => ?_) (fun h_8 h => ?_)
  · refine w_reg ⟨[(2, .s (.int .u64 (IntKind.u64.wrap (0 - (IntKind.u64.wrap a1)))))], [], 0⟩ (by kernel_rfl) (leB rfl) ?_
    refine w_ret ?_
    obtain rfl := ((Option.some.inj h).symm).symm
    exact ret_leaf (.inl rfl) ⟨[(2, .s (.int .u64 (IntKind.u64.wrap (0 - (IntKind.u64.wrap a1)))))], [], 0⟩ (to_ren [] (leB rfl) (by kernel_rfl) (by kernel_rfl) (renE_of (by kernel_rfl) (by kernel_rfl)) trivial) [.s (.int .u64 (IntKind.u64.wrap (0 - (IntKind.u64.wrap a1))))] (by kernel_rfl) (by kernel_rfl) (leB rfl) (by kernel_rfl) trivial
  · refine w_skip ?_
    refine hK_7 _ ⟨[(0, I a1)], [], 0⟩ (to_trim (by kernel_rfl) (leB rfl)) ?_
    refine w_reg ⟨[(2, .s (.int .u64 (IntKind.u64.wrap a1)))], [], 0⟩ (by kernel_rfl) (leB rfl) ?_
    refine w_ret ?_
    obtain rfl := ((Option.some.inj h).symm).symm
    exact ret_leaf (.inl rfl) ⟨[(2, .s (.int .u64 (IntKind.u64.wrap a1)))], [], 0⟩ (to_ren [] (leB rfl) (by kernel_rfl) (by kernel_rfl) (renE_of (by kernel_rfl) (by kernel_rfl)) trivial) [.s (.int .u64 (IntKind.u64.wrap a1))] (by kernel_rfl) (by kernel_rfl) (leB rfl) (by kernel_rfl) trivial
/-- estoppel/ratio.common -/
def g_ratio_common (a1 : List Int) : Option (Int) :=
  bindF (ρ := Int) (
  loopO (σ := Int × Int) (fun s_895 =>
  if (decide (s_895.2 < (a1.length : Int))) = true then
  (getI a1 s_895.2).bind fun x_948 =>
  loopO (σ := Int × Int) (fun s_966 =>
  if (s_966.2 != 0) = true then
  (remO s_966.1 s_966.2).bind fun x_974 =>
  some (.inl (s_966.2, x_974))
  else
  some (.inr (.inl (s_966.1, (IntKind.i64.wrap (s_895.2 + 1)))))) (s_895.1, x_948)
  else
  some (.inr (.inl s_895.1))) (0, 0)) (fun (e_734 : Int) =>
  some e_734)
set_option maxHeartbeats 4000000 in
theorem g_ratio_common_ok {a1 : List Int} {res : Int} (h : g_ratio_common a1 = some res) : SpecK Tryd.prog [] 46 [sl 1 cU64 a1] [] 0 (.s (.int .u64 res)) [] 0 := by
  refine ⟨spec_of_wp Tryd.func46 (by kernel_rfl) rfl Tryd.ntmps46 (by rw [Tryd.results46]) (leB rfl) ?_, by kernel_rfl, trivial, by kernel_rfl, trivial, by kernel_rfl⟩
  unfold g_ratio_common at h
  refine w_reg ⟨[(0, sl 1 cU64 a1)], [], 0⟩ (by kernel_rfl) (leB rfl) ?_
  refine w_reg ⟨[(0, sl 1 cU64 a1), (3, .s (.int .u64 0))], [], 0⟩ (by kernel_rfl) (leB rfl) ?_
  refine w_assoc ?_
  refine w_seq (fun K hK_496 => w_reg0 ?_)
  refine dd_run 0 1 rfl (by kernel_rfl) ?_
  refine dd_one 1 (.call ⟨.builtin .len, #[(.tmp 6)], #[79]⟩) (some 7) (by kernel_rfl) (o_pure (I (a1.length : Int)) (ev_len_sl (e := 69) (ty := 0) (k := 1) (c := cU64) (by kernel_rfl) (by kernel_rfl)) rfl) ?_
  refine ops_fin' hK_496 ⟨[(3, .s (.int .u64 0)), (6, sl 1 cU64 a1), (7, I (a1.length : Int)), (8, I 0)], [], 0⟩ (by kernel_rfl) (leB rfl) ?_
  refine w_cut h (fun (e_734 : Int) => ⟨[(3, .s (.int .u64 e_734))], [], 0⟩) (fun o h h_735 K hK_736 => ?_) (fun e_734 h => ?_)
  · refine w_block ?_
    refine w_loopO h (fun (s_895 : Int × Int) => ⟨[(3, .s (.int .u64 s_895.1)), (6, sl 1 cU64 a1), (7, I (a1.length : Int)), (8, I s_895.2)], [], 0⟩) (to_ren [] (leB rfl) (by kernel_rfl) (by kernel_rfl) (renE_of (by kernel_rfl) (by kernel_rfl)) trivial) (fun s_895 o h h_896 K hK_897 => ?_)
    · refine w_reg ⟨[(3, .s (.int .u64 s_895.1)), (6, sl 1 cU64 a1), (7, I (a1.length : Int)), (8, I s_895.2), (9, B (decide (s_895.2 < (a1.length : Int))))], [], 0⟩ (by kernel_rfl) (leB rfl) ?_
      refine w_seq (fun K hK_899 => ?_)
      refine w_ite h (by kernel_rfl) (fun h_900 h => ?_) (fun h_900 h => ?_)
      · refine w_skip ?_
        refine hK_899 _ ⟨[(3, .s (.int .u64 s_895.1)), (6, sl 1 cU64 a1), (7, I (a1.length : Int)), (8, I s_895.2)], [], 0⟩ (to_trim (by kernel_rfl) (leB rfl)) ?_
        refine w_seq (fun K hK_938 => ?_)
        refine w_block ?_
        refine w_seq (fun K hK_945 => w_reg0 ?_)
        obtain ⟨x_948, h_949, h⟩ := bind_some' h
        refine dd_one 0 (.indexAddr 79 (.tmp 6) (.tmp 8)) (some 10) (by kernel_rfl) (o_pure (.ip [.s (.int .u64 x_948)]) (ev_idx_sl (e := 69) (k := 1) (c := cU64) (ik := .i64) h_949 (by kernel_rfl) (by kernel_rfl) (by kernel_rfl) (by kernel_rfl)) rfl) ?_
        refine ops_fin' hK_945 ⟨[(3, .s (.int .u64 s_895.1)), (5, .s (.int .u64 x_948)), (6, sl 1 cU64 a1), (7, I (a1.length : Int)), (8, I s_895.2)], [], 0⟩ (by kernel_rfl) (leB rfl) ?_
        refine w_block ?_
        refine w_loopO h (fun (s_966 : Int × Int) => ⟨[(3, .s (.int .u64 s_966.1)), (5, .s (.int .u64 s_966.2)), (6, sl 1 cU64 a1), (7, I (a1.length : Int)), (8, I s_895.2)], [], 0⟩) (to_ren [] (leB rfl) (by kernel_rfl) (by kernel_rfl) (renE_of (by kernel_rfl) (by kernel_rfl)) trivial) (fun s_966 o h h_967 K hK_968 => ?_)
        · refine w_assoc ?_
          refine w_reg ⟨[(3, .s (.int .u64 s_966.1)), (5, .s (.int .u64 s_966.2)), (6, sl 1 cU64 a1), (7, I (a1.length : Int)), (8, I s_895.2), (13, B (s_966.2 != 0))], [], 0⟩ (by kernel_rfl) (leB rfl) ?_
          refine w_seq (fun K hK_970 => ?_)
          refine w_ite h (by kernel_rfl) (fun h_971 h => ?_) (fun h_971 h => ?_)
          · refine w_skip ?_
            refine hK_970 _ ⟨[(3, .s (.int .u64 s_966.1)), (5, .s (.int .u64 s_966.2)), (6, sl 1 cU64 a1), (7, I (a1.length : Int)), (8, I s_895.2)], [], 0⟩ (to_trim (by kernel_rfl) (leB rfl)) ?_
            refine w_block ?_
            refine w_mix0 (by kernel_rfl) (by kernel_rfl) ?_
            refine mm_run 0 3 rfl (by kernel_rfl) ?_
            obtain ⟨x_974, h_975, h⟩ := bind_some' h
            refine mm_one 3 (.binOp .rem 69 (.tmp 15) (.tmp 16) 69) (some 17) (by kernel_rfl) (by kernel_rfl) (oH_pure (.s (.int .u64 x_974)) (ev_rem h_975 (by kernel_rfl) (by kernel_rfl)) rfl) ?_
            refine mm_run 4 6 rfl (by kernel_rfl) ?_
            refine mm_nil 6 rfl ?_
            exact hK_968 _ _ (Option.some.inj h).symm (to_ren [] (leB rfl) (by kernel_rfl) (by kernel_rfl) (renE_of (by kernel_rfl) (by kernel_rfl)) trivial)
          · refine w_exit ?_
            refine hK_938 _ ⟨[(3, .s (.int .u64 s_966.1)), (6, sl 1 cU64 a1), (7, I (a1.length : Int)), (8, I s_895.2)], [], 0⟩ (to_trim (by kernel_rfl) (leB rfl)) ?_
            refine w_reg0 ?_
            refine dd_run 0 2 rfl (by kernel_rfl) ?_
            refine dd_nil 2 rfl ?_
            exact hK_897 _ _ (h_967 _ (Option.some.inj h).symm).symm (to_ren [] (leB rfl) (by kernel_rfl) (by kernel_rfl) (renE_of (by kernel_rfl) (by kernel_rfl)) trivial)
      · refine w_exit ?_
        exact hK_736 _ _ (h_896 _ (Option.some.inj h).symm).symm (to_ren [] (leB rfl) (by kernel_rfl) (by kernel_rfl) (renE_of (by kernel_rfl) (by kernel_rfl)) trivial)
  · refine w_reg ⟨[(2, .s (.int .u64 e_734))], [], 0⟩ (by kernel_rfl) (leB rfl) ?_
    refine w_ret ?_
    obtain rfl := ((Option.some.inj h).symm).symm
    exact ret_leaf (.inl rfl) ⟨[(2, .s (.int .u64 e_734))], [], 0⟩ (to_ren [] (leB rfl) (by kernel_rfl) (by kernel_rfl) (renE_of (by kernel_rfl) (by kernel_rfl)) trivial) [.s (.int .u64 e_734)] (by kernel_rfl) (by kernel_rfl) (leB rfl) (by kernel_rfl) trivial
/-- estoppel/ratio.Valid -/
def g_ratio_Valid (a1 : D.Ratio) : Option (Bool) :=
  if (decide (0 < a1.Den)) = true then
  if (decide (a1.Den ≤ 1000000)) = true then
  (g_ratio_magnitude a1.Num).bind fun x_1004 =>
  if (decide (x_1004 ≤ 1000000000000)) = true then
  (g_ratio_magnitude a1.Num).bind fun x_1007 =>
  (g_ratio_magnitude a1.Den).bind fun x_1009 =>
  (g_ratio_common [x_1007, x_1009]).bind fun x_1011 =>
  some (x_1011 == 1)
  else
  some false
  else
  some false
  else
  some false
set_option maxHeartbeats 4000000 in
theorem g_ratio_Valid_ok {a1 : D.Ratio} {res : Bool} (h : g_ratio_Valid a1 = some res) : SpecK Tryd.prog [] 24 [.agg (cs_Ratio a1)] [] 0 (B res) [] 0 := by
  refine ⟨spec_of_wp Tryd.func24 (by kernel_rfl) rfl Tryd.ntmps24 (by rw [Tryd.results24]) (leB rfl) ?_, by kernel_rfl, trivial, by kernel_rfl, trivial, by kernel_rfl⟩
  unfold g_ratio_Valid at h
  refine w_reg ⟨[(1, .ip (cs_Ratio a1))], [], 0⟩ (by kernel_rfl) (leB rfl) ?_
  refine w_seq (fun K hK_1001 => w_mix0 (by kernel_rfl) (by kernel_rfl) ?_)
  refine mm_run 0 4 rfl (by kernel_rfl) ?_
  refine ite_both h (fun h_1002 h => ?_) (fun h_1002 h => ?_)
  · refine mm_oneG 4 (.fieldAddr 31 (.tmp 1) 1) (some 7) 3 true (b := (decide (0 < a1.Den))) (by kernel_rfl) (by kernel_rfl) (by kernel_rfl) h_1002 (oH_pure (.ip (((cs_Ratio a1)).drop 1)) (by kernel_rfl) rfl) ?_
    refine mm_oneG 5 (.load 3 (.tmp 7)) (some 8) 3 true (b := (decide (0 < a1.Den))) (by kernel_rfl) (by kernel_rfl) (by kernel_rfl) h_1002 (oH_pure (I a1.Den) (by kernel_rfl) rfl) ?_
    refine mm_oneG 6 (.binOp .leq 3 (.tmp 8) (.const (.int .i64 (1000000))) 3) (some 9) 3 true (b := (decide (0 < a1.Den))) (by kernel_rfl) (by kernel_rfl) (by kernel_rfl) h_1002 (oH_pure (B (decide (a1.Den ≤ 1000000))) (by kernel_rfl) rfl) ?_
    refine mm_one 7 (.pick (.tmp 6) (.tmp 9) (.const (.bool false))) (some 10) (by kernel_rfl) (by kernel_rfl) (oH_pure (B (decide (a1.Den ≤ 1000000))) (ev_pickT h_1002 (by kernel_rfl) (by kernel_rfl)) rfl) ?_
    refine mm_run 8 9 rfl (by kernel_rfl) ?_
    refine ite_both h (fun h_1003 h => ?_) (fun h_1003 h => ?_)
    · refine mm_oneG 9 (.fieldAddr 31 (.tmp 1) 0) (some 12) 8 true (b := (decide (a1.Den ≤ 1000000))) (by kernel_rfl) (by kernel_rfl) (by kernel_rfl) h_1003 (oH_pure (.ip (cs_Ratio a1)) (by kernel_rfl) rfl) ?_
      refine mm_oneG 10 (.load 3 (.tmp 12)) (some 13) 8 true (b := (decide (a1.Den ≤ 1000000))) (by kernel_rfl) (by kernel_rfl) (by kernel_rfl) h_1003 (oH_pure (I a1.Num) (by kernel_rfl) rfl) ?_
      obtain ⟨x_1004, h_1005, h⟩ := bind_some' h
      refine mm_oneG 11 (.call ⟨.value (.func 45), #[(.tmp 13)], #[3]⟩) (some 14) 8 true (b := (decide (a1.Den ≤ 1000000))) (by kernel_rfl) (by kernel_rfl) (by kernel_rfl) h_1003 (oH_callP (g_ratio_magnitude_ok h_1005) (by kernel_rfl) rfl) ?_
      refine mm_oneG 12 (.binOp .leq 69 (.tmp 14) (.const (.int .u64 (1000000000000))) 69) (some 15) 8 true (b := (decide (a1.Den ≤ 1000000))) (by kernel_rfl) (by kernel_rfl) (by kernel_rfl) h_1003 (oH_pure (B (decide (x_1004 ≤ 1000000000000))) (by kernel_rfl) rfl) ?_
      refine mm_one 13 (.pick (.tmp 11) (.tmp 15) (.const (.bool false))) (some 16) (by kernel_rfl) (by kernel_rfl) (oH_pure (B (decide (x_1004 ≤ 1000000000000))) (ev_pickT h_1003 (by kernel_rfl) (by kernel_rfl)) rfl) ?_
      refine mm_run 14 15 rfl (by kernel_rfl) ?_
      refine ite_both h (fun h_1006 h => ?_) (fun h_1006 h => ?_)
      · refine mm_oneG 15 (.fieldAddr 31 (.tmp 1) 0) (some 18) 14 true (b := (decide (x_1004 ≤ 1000000000000))) (by kernel_rfl) (by kernel_rfl) (by kernel_rfl) h_1006 (oH_pure (.ip (cs_Ratio a1)) (by kernel_rfl) rfl) ?_
        refine mm_oneG 16 (.load 3 (.tmp 18)) (some 19) 14 true (b := (decide (x_1004 ≤ 1000000000000))) (by kernel_rfl) (by kernel_rfl) (by kernel_rfl) h_1006 (oH_pure (I a1.Num) (by kernel_rfl) rfl) ?_
        obtain ⟨x_1007, h_1008, h⟩ := bind_some' h
        refine mm_oneG 17 (.call ⟨.value (.func 45), #[(.tmp 19)], #[3]⟩) (some 20) 14 true (b := (decide (x_1004 ≤ 1000000000000))) (by kernel_rfl) (by kernel_rfl) (by kernel_rfl) h_1006 (oH_callP (g_ratio_magnitude_ok h_1008) (by kernel_rfl) rfl) ?_
        refine mm_oneG 18 (.fieldAddr 31 (.tmp 1) 1) (some 21) 14 true (b := (decide (x_1004 ≤ 1000000000000))) (by kernel_rfl) (by kernel_rfl) (by kernel_rfl) h_1006 (oH_pure (.ip (((cs_Ratio a1)).drop 1)) (by kernel_rfl) rfl) ?_
        refine mm_oneG 19 (.load 3 (.tmp 21)) (some 22) 14 true (b := (decide (x_1004 ≤ 1000000000000))) (by kernel_rfl) (by kernel_rfl) (by kernel_rfl) h_1006 (oH_pure (I a1.Den) (by kernel_rfl) rfl) ?_
        obtain ⟨x_1009, h_1010, h⟩ := bind_some' h
        refine mm_oneG 20 (.call ⟨.value (.func 45), #[(.tmp 22)], #[3]⟩) (some 23) 14 true (b := (decide (x_1004 ≤ 1000000000000))) (by kernel_rfl) (by kernel_rfl) (by kernel_rfl) h_1006 (oH_callP (g_ratio_magnitude_ok h_1010) (by kernel_rfl) rfl) ?_
        refine mm_ops 21 (.buildSlice 79 2 #[(0, (.tmp 20)), (1, (.tmp 23))]) (some 24) (some (14, true)) (by kernel_rfl) (by kernel_rfl) ?_
        refine dd_runG 21 22 14 true rfl (b := (decide (x_1004 ≤ 1000000000000))) (by kernel_rfl) h_1006 (by kernel_rfl) ?_
        obtain ⟨x_1011, h_1012, h⟩ := bind_some' h
        refine dd_oneG 22 (.call ⟨.value (.func 46), #[(.tmp 24)], #[79]⟩) (some 25) 14 true (b := (decide (x_1004 ≤ 1000000000000))) (by kernel_rfl) (by kernel_rfl) h_1006 (o_callP (g_ratio_common_ok h_1012) (by kernel_rfl) rfl) ?_
        refine dd_runG 23 24 14 true rfl (b := (decide (x_1004 ≤ 1000000000000))) (by kernel_rfl) h_1006 (by kernel_rfl) ?_
        refine dd_one 24 (.pick (.tmp 17) (.tmp 26) (.const (.bool false))) (some 27) (by kernel_rfl) (o_pure (B (x_1011 == 1)) (ev_pickT h_1006 (by kernel_rfl) (by kernel_rfl)) rfl) ?_
        refine ops_fin' hK_1001 ⟨[(2, B (x_1011 == 1))], [], 0⟩ (by kernel_rfl) (leB rfl) ?_
        refine w_ret ?_
        obtain rfl := ((Option.some.inj h).symm).symm
        exact ret_leaf (.inl rfl) ⟨[(2, B (x_1011 == 1))], [], 0⟩ (to_ren [] (leB rfl) (by kernel_rfl) (by kernel_rfl) (renE_of (by kernel_rfl) (by kernel_rfl)) trivial) [B (x_1011 == 1)] (by kernel_rfl) (by kernel_rfl) (leB rfl) (by kernel_rfl) trivial
      · refine mm_skip 15 (.fieldAddr 31 (.tmp 1) 0) (some 18) 14 true (b := (decide (x_1004 ≤ 1000000000000))) (by kernel_rfl) (by kernel_rfl) (by kernel_rfl) h_1006 rfl ?_
        refine mm_skip 16 (.load 3 (.tmp 18)) (some 19) 14 true (b := (decide (x_1004 ≤ 1000000000000))) (by kernel_rfl) (by kernel_rfl) (by kernel_rfl) h_1006 rfl ?_
        refine mm_skip 17 (.call ⟨.value (.func 45), #[(.tmp 19)], #[3]⟩) (some 20) 14 true (b := (decide (x_1004 ≤ 1000000000000))) (by kernel_rfl) (by kernel_rfl) (by kernel_rfl) h_1006 rfl ?_
        refine mm_skip 18 (.fieldAddr 31 (.tmp 1) 1) (some 21) 14 true (b := (decide (x_1004 ≤ 1000000000000))) (by kernel_rfl) (by kernel_rfl) (by kernel_rfl) h_1006 rfl ?_
        refine mm_skip 19 (.load 3 (.tmp 21)) (some 22) 14 true (b := (decide (x_1004 ≤ 1000000000000))) (by kernel_rfl) (by kernel_rfl) (by kernel_rfl) h_1006 rfl ?_
        refine mm_skip 20 (.call ⟨.value (.func 45), #[(.tmp 22)], #[3]⟩) (some 23) 14 true (b := (decide (x_1004 ≤ 1000000000000))) (by kernel_rfl) (by kernel_rfl) (by kernel_rfl) h_1006 rfl ?_
        refine mm_ops 21 (.buildSlice 79 2 #[(0, (.tmp 20)), (1, (.tmp 23))]) (some 24) (some (14, true)) (by kernel_rfl) (by kernel_rfl) ?_
        refine dd_skip 21 24 14 true rfl (b := (decide (x_1004 ≤ 1000000000000))) (by kernel_rfl) h_1006 (by kernel_rfl) ?_
        refine dd_one 24 (.pick (.tmp 17) (.tmp 26) (.const (.bool false))) (some 27) (by kernel_rfl) (o_pure (B false) (ev_pickF h_1006 (by kernel_rfl) (by kernel_rfl)) rfl) ?_
        refine ops_fin' hK_1001 ⟨[(2, B false)], [], 0⟩ (by kernel_rfl) (leB rfl) ?_
        refine w_ret ?_
        obtain rfl := ((Option.some.inj h).symm).symm
        exact ret_leaf (.inl rfl) ⟨[(2, B false)], [], 0⟩ (to_ren [] (leB rfl) (by kernel_rfl) (by kernel_rfl) (renE_of (by kernel_rfl) (by kernel_rfl)) trivial) [B false] (by kernel_rfl) (by kernel_rfl) (leB rfl) (by kernel_rfl) trivial
    · refine mm_skip 9 (.fieldAddr 31 (.tmp 1) 0) (some 12) 8 true (b := (decide (a1.Den ≤ 1000000))) (by kernel_rfl) (by kernel_rfl) (by kernel_rfl) h_1003 rfl ?_
      refine mm_skip 10 (.load 3 (.tmp 12)) (some 13) 8 true (b := (decide (a1.Den ≤ 1000000))) (by kernel_rfl) (by kernel_rfl) (by kernel_rfl) h_1003 rfl ?_
      refine mm_skip 11 (.call ⟨.value (.func 45), #[(.tmp 13)], #[3]⟩) (some 14) 8 true (b := (decide (a1.Den ≤ 1000000))) (by kernel_rfl) (by kernel_rfl) (by kernel_rfl) h_1003 rfl ?_
      refine mm_skip 12 (.binOp .leq 69 (.tmp 14) (.const (.int .u64 (1000000000000))) 69) (some 15) 8 true (b := (decide (a1.Den ≤ 1000000))) (by kernel_rfl) (by kernel_rfl) (by kernel_rfl) h_1003 rfl ?_
      refine mm_one 13 (.pick (.tmp 11) (.tmp 15) (.const (.bool false))) (some 16) (by kernel_rfl) (by kernel_rfl) (oH_pure (B false) (ev_pickF h_1003 (by kernel_rfl) (by kernel_rfl)) rfl) ?_
      refine mm_run 14 15 rfl (by kernel_rfl) ?_
      refine mm_skip 15 (.fieldAddr 31 (.tmp 1) 0) (some 18) 14 true (b := false) (by kernel_rfl) (by kernel_rfl) (by kernel_rfl) rfl rfl ?_
      refine mm_skip 16 (.load 3 (.tmp 18)) (some 19) 14 true (b := false) (by kernel_rfl) (by kernel_rfl) (by kernel_rfl) rfl rfl ?_
      refine mm_skip 17 (.call ⟨.value (.func 45), #[(.tmp 19)], #[3]⟩) (some 20) 14 true (b := false) (by kernel_rfl) (by kernel_rfl) (by kernel_rfl) rfl rfl ?_
      refine mm_skip 18 (.fieldAddr 31 (.tmp 1) 1) (some 21) 14 true (b := false) (by kernel_rfl) (by kernel_rfl) (by kernel_rfl) rfl rfl ?_
      refine mm_skip 19 (.load 3 (.tmp 21)) (some 22) 14 true (b := false) (by kernel_rfl) (by kernel_rfl) (by kernel_rfl) rfl rfl ?_
      refine mm_skip 20 (.call ⟨.value (.func 45), #[(.tmp 22)], #[3]⟩) (some 23) 14 true (b := false) (by kernel_rfl) (by kernel_rfl) (by kernel_rfl) rfl rfl ?_
      refine mm_ops 21 (.buildSlice 79 2 #[(0, (.tmp 20)), (1, (.tmp 23))]) (some 24) (some (14, true)) (by kernel_rfl) (by kernel_rfl) ?_
      refine dd_skip 21 24 14 true rfl (b := false) (by kernel_rfl) rfl (by kernel_rfl) ?_
      refine ops_fin' hK_1001 ⟨[(2, B false)], [], 0⟩ (by kernel_rfl) (leB rfl) ?_
      refine w_ret ?_
      obtain rfl := ((Option.some.inj h).symm).symm
      exact ret_leaf (.inl rfl) ⟨[(2, B false)], [], 0⟩ (to_ren [] (leB rfl) (by kernel_rfl) (by kernel_rfl) (renE_of (by kernel_rfl) (by kernel_rfl)) trivial) [B false] (by kernel_rfl) (by kernel_rfl) (leB rfl) (by kernel_rfl) trivial
  · refine mm_skip 4 (.fieldAddr 31 (.tmp 1) 1) (some 7) 3 true (b := (decide (0 < a1.Den))) (by kernel_rfl) (by kernel_rfl) (by kernel_rfl) h_1002 rfl ?_
    refine mm_skip 5 (.load 3 (.tmp 7)) (some 8) 3 true (b := (decide (0 < a1.Den))) (by kernel_rfl) (by kernel_rfl) (by kernel_rfl) h_1002 rfl ?_
    refine mm_skip 6 (.binOp .leq 3 (.tmp 8) (.const (.int .i64 (1000000))) 3) (some 9) 3 true (b := (decide (0 < a1.Den))) (by kernel_rfl) (by kernel_rfl) (by kernel_rfl) h_1002 rfl ?_
    refine mm_one 7 (.pick (.tmp 6) (.tmp 9) (.const (.bool false))) (some 10) (by kernel_rfl) (by kernel_rfl) (oH_pure (B false) (ev_pickF h_1002 (by kernel_rfl) (by kernel_rfl)) rfl) ?_
    refine mm_run 8 9 rfl (by kernel_rfl) ?_
    refine mm_skip 9 (.fieldAddr 31 (.tmp 1) 0) (some 12) 8 true (b := false) (by kernel_rfl) (by kernel_rfl) (by kernel_rfl) rfl rfl ?_
    refine mm_skip 10 (.load 3 (.tmp 12)) (some 13) 8 true (b := false) (by kernel_rfl) (by kernel_rfl) (by kernel_rfl) rfl rfl ?_
    refine mm_skip 11 (.call ⟨.value (.func 45), #[(.tmp 13)], #[3]⟩) (some 14) 8 true (b := false) (by kernel_rfl) (by kernel_rfl) (by kernel_rfl) rfl rfl ?_
    refine mm_skip 12 (.binOp .leq 69 (.tmp 14) (.const (.int .u64 (1000000000000))) 69) (some 15) 8 true (b := false) (by kernel_rfl) (by kernel_rfl) (by kernel_rfl) rfl rfl ?_
    refine mm_run 13 15 rfl (by kernel_rfl) ?_
    refine mm_skip 15 (.fieldAddr 31 (.tmp 1) 0) (some 18) 14 true (b := false) (by kernel_rfl) (by kernel_rfl) (by kernel_rfl) rfl rfl ?_
    refine mm_skip 16 (.load 3 (.tmp 18)) (some 19) 14 true (b := false) (by kernel_rfl) (by kernel_rfl) (by kernel_rfl) rfl rfl ?_
    refine mm_skip 17 (.call ⟨.value (.func 45), #[(.tmp 19)], #[3]⟩) (some 20) 14 true (b := false) (by kernel_rfl) (by kernel_rfl) (by kernel_rfl) rfl rfl ?_
    refine mm_skip 18 (.fieldAddr 31 (.tmp 1) 1) (some 21) 14 true (b := false) (by kernel_rfl) (by kernel_rfl) (by kernel_rfl) rfl rfl ?_
    refine mm_skip 19 (.load 3 (.tmp 21)) (some 22) 14 true (b := false) (by kernel_rfl) (by kernel_rfl) (by kernel_rfl) rfl rfl ?_
    refine mm_skip 20 (.call ⟨.value (.func 45), #[(.tmp 22)], #[3]⟩) (some 23) 14 true (b := false) (by kernel_rfl) (by kernel_rfl) (by kernel_rfl) rfl rfl ?_
    refine mm_ops 21 (.buildSlice 79 2 #[(0, (.tmp 20)), (1, (.tmp 23))]) (some 24) (some (14, true)) (by kernel_rfl) (by kernel_rfl) ?_
    refine dd_skip 21 24 14 true rfl (b := false) (by kernel_rfl) rfl (by kernel_rfl) ?_
    refine ops_fin' hK_1001 ⟨[(2, B false)], [], 0⟩ (by kernel_rfl) (leB rfl) ?_
    refine w_ret ?_
    obtain rfl := ((Option.some.inj h).symm).symm
    exact ret_leaf (.inl rfl) ⟨[(2, B false)], [], 0⟩ (to_ren [] (leB rfl) (by kernel_rfl) (by kernel_rfl) (renE_of (by kernel_rfl) (by kernel_rfl)) trivial) [B false] (by kernel_rfl) (by kernel_rfl) (leB rfl) (by kernel_rfl) trivial
/-- estoppel/ratio.reduced -/
def g_ratio_reduced (a1 : Bool) (a2 : Int) (a3 : Int) : Option (D.Ratio × Int) :=
  (g_ratio_common [a2, a3]).bind fun x_1080 =>
  (quoO .u64 a2 x_1080).bind fun x_1097 =>
  (quoO .u64 a3 x_1080).bind fun x_1101 =>
  bindF (ρ := Bool) (
  if (decide (x_1097 > 1000000000000)) = true then
  some (.inl true)
  else
  some (.inl (decide (x_1101 > 1000000)))) (fun (e_1112 : Bool) =>
  if e_1112 = true then
  some ((D.Ratio.mk 0 0), 2)
  else
  if a1 = true then
  some ((D.Ratio.mk (IntKind.i64.wrap (0 - (IntKind.i64.wrap x_1097))) (IntKind.i64.wrap x_1101)), 0)
  else
  some ((D.Ratio.mk (IntKind.i64.wrap x_1097) (IntKind.i64.wrap x_1101)), 0))
set_option maxHeartbeats 4000000 in
theorem g_ratio_reduced_ok {a1 : Bool} {a2 : Int} {a3 : Int} {res : D.Ratio × Int} (h : g_ratio_reduced a1 a2 a3 = some res) : SpecK Tryd.prog [] 56 [B a1, .s (.int .u64 a2), .s (.int .u64 a3)] [] 0 (.tup [.agg (cs_Ratio res.1), I res.2]) [] 0 := by
  refine ⟨spec_of_wp Tryd.func56 (by kernel_rfl) rfl Tryd.ntmps56 (by rw [Tryd.results56]) (leB rfl) ?_, by kernel_rfl, trivial, by kernel_rfl, trivial, by kernel_rfl⟩
  unfold g_ratio_reduced at h
  refine w_reg ⟨[(0, B a1), (1, .s (.int .u64 a2)), (2, .s (.int .u64 a3)), (6, .ptr 0 0)], [(0, ⟨31, 0, [I 0, I 0]⟩)], 1⟩ (by kernel_rfl) (leB rfl) ?_
  refine w_seq (fun K hK_1079 => w_reg0 ?_)
  refine dd_run 0 3 rfl (by kernel_rfl) ?_
  obtain ⟨x_1080, h_1081, h⟩ := bind_some' h
  refine dd_one 3 (.call ⟨.value (.func 46), #[(.tmp 11)], #[79]⟩) (some 12) (by kernel_rfl) (o_callP (g_ratio_common_ok h_1081) (by kernel_rfl) rfl) ?_
  refine ops_fin' hK_1079 ⟨[(0, B a1), (1, .s (.int .u64 a2)), (2, .s (.int .u64 a3)), (6, .ptr 0 0), (8, .s (.int .u64 x_1080))], [(0, ⟨31, 0, [I 0, I 0]⟩)], 1⟩ (by kernel_rfl) (leB rfl) ?_
  refine w_seq (fun K hK_1094 => w_mix0 (by kernel_rfl) (by kernel_rfl) ?_)
  refine mm_run 0 2 rfl (by kernel_rfl) ?_
  obtain ⟨x_1097, h_1098, h⟩ := bind_some' h
  refine mm_one 2 (.binOp .quo 69 (.tmp 13) (.tmp 14) 69) (some 15) (by kernel_rfl) (by kernel_rfl) (oH_pure (.s (.int .u64 x_1097)) (ev_quo h_1098 (by kernel_rfl) (by kernel_rfl)) rfl) ?_
  refine mm_run 3 5 rfl (by kernel_rfl) ?_
  obtain ⟨x_1101, h_1102, h⟩ := bind_some' h
  refine mm_one 5 (.binOp .quo 69 (.tmp 16) (.tmp 17) 69) (some 18) (by kernel_rfl) (by kernel_rfl) (oH_pure (.s (.int .u64 x_1101)) (ev_quo h_1102 (by kernel_rfl) (by kernel_rfl)) rfl) ?_
  refine mix_fin' hK_1094 ⟨[(0, B a1), (1, .s (.int .u64 x_1097)), (2, .s (.int .u64 x_1101)), (6, .ptr 0 0)], [(0, ⟨31, 0, [I 0, I 0]⟩)], 1⟩ (by kernel_rfl) (leB rfl) ?_
  refine w_seq (fun K hK_1110 => ?_)
  refine w_block ?_
  refine w_cut h (fun (e_1112 : Bool) => ⟨[(0, B a1), (1, .s (.int .u64 x_1097)), (2, .s (.int .u64 x_1101)), (6, .ptr 0 0), (19, B e_1112)], [(0, ⟨31, 0, [I 0, I 0]⟩)], 1⟩) (fun o h h_1113 K hK_1114 => ?_) (fun e_1112 h => ?_)
  · refine w_reg0 ?_
    refine dd_run 0 3 rfl (by kernel_rfl) ?_
    refine ite_both h (fun h_1115 h => ?_) (fun h_1115 h => ?_)
    · refine dd_skip 3 5 2 false rfl (b := (decide (x_1097 > 1000000000000))) (by kernel_rfl) h_1115 (by kernel_rfl) ?_
      refine dd_one 5 (.pick (.tmp 22) (.const (.bool true)) (.tmp 24)) (some 25) (by kernel_rfl) (o_pure (B true) (ev_pickT h_1115 (by kernel_rfl) (by kernel_rfl)) rfl) ?_
      refine dd_run 6 7 rfl (by kernel_rfl) ?_
      refine dd_nil 7 rfl ?_
      exact hK_1114 _ _ (Option.some.inj h).symm (to_ren [] (leB rfl) (by kernel_rfl) (by kernel_rfl) (renE_of (by kernel_rfl) (by kernel_rfl)) ⟨reRn (by kernel_rfl) (leB rfl) (by kernel_rfl), trivial⟩)
    · refine dd_runG 3 5 2 false rfl (b := (decide (x_1097 > 1000000000000))) (by kernel_rfl) h_1115 (by kernel_rfl) ?_
      refine dd_one 5 (.pick (.tmp 22) (.const (.bool true)) (.tmp 24)) (some 25) (by kernel_rfl) (o_pure (B (decide (x_1101 > 1000000))) (ev_pickF h_1115 (by kernel_rfl) (by kernel_rfl)) rfl) ?_
      refine dd_run 6 7 rfl (by kernel_rfl) ?_
      refine dd_nil 7 rfl ?_
      exact hK_1114 _ _ (Option.some.inj h).symm (to_ren [] (leB rfl) (by kernel_rfl) (by kernel_rfl) (renE_of (by kernel_rfl) (by kernel_rfl)) ⟨reRn (by kernel_rfl) (leB rfl) (by kernel_rfl), trivial⟩)
  · refine w_ite h (by kernel_rfl) (fun h_1116 h => ?_) (fun h_1116 h => ?_)
    · refine w_reg ⟨[(6, .ptr 0 0), (7, I 2)], [(0, ⟨31, 0, [I 0, I 0]⟩)], 1⟩ (by kernel_rfl) (leB rfl) ?_
      refine w_ret ?_
      obtain rfl := ((Option.some.inj h).symm).symm
      exact ret_leaf (.inl rfl) ⟨[(6, .ptr 0 0), (7, I 2)], [(0, ⟨31, 0, (cs_Ratio (D.Ratio.mk 0 0))⟩)], 1⟩ (to_ren [] (leB rfl) (by kernel_rfl) (by kernel_rfl) (renE_of (by kernel_rfl) (by kernel_rfl)) ⟨reRn (by kernel_rfl) (leB rfl) (by kernel_rfl), trivial⟩) [.agg (cs_Ratio (D.Ratio.mk 0 0)), I 2] (by kernel_rfl) (by kernel_rfl) (leB rfl) (by kernel_rfl) trivial
    · refine w_reg ⟨[(1, .s (.int .u64 x_1097)), (2, .s (.int .u64 x_1101)), (6, .ptr 0 0), (27, B a1)], [(0, ⟨31, 0, [I 0, I 0]⟩)], 1⟩ (by kernel_rfl) (leB rfl) ?_
      refine w_ite h (by kernel_rfl) (fun h_1117 h => ?_) (fun h_1117 h => ?_)
      · refine w_reg ⟨[(6, .ptr 0 0), (7, I 0)], [(0, ⟨31, 0, [I (IntKind.i64.wrap (0 - (IntKind.i64.wrap x_1097))), I (IntKind.i64.wrap x_1101)]⟩)], 1⟩ (by kernel_rfl) (leB rfl) ?_
        refine w_ret ?_
        obtain rfl := ((Option.some.inj h).symm).symm
        exact ret_leaf (.inl rfl) ⟨[(6, .ptr 0 0), (7, I 0)], [(0, ⟨31, 0, (cs_Ratio (D.Ratio.mk (IntKind.i64.wrap (0 - (IntKind.i64.wrap x_1097))) (IntKind.i64.wrap x_1101)))⟩)], 1⟩ (to_ren [] (leB rfl) (by kernel_rfl) (by kernel_rfl) (renE_of (by kernel_rfl) (by kernel_rfl)) ⟨reRn (by kernel_rfl) (leB rfl) (by kernel_rfl), trivial⟩) [.agg (cs_Ratio (D.Ratio.mk (IntKind.i64.wrap (0 - (IntKind.i64.wrap x_1097))) (IntKind.i64.wrap x_1101))), I 0] (by kernel_rfl) (by kernel_rfl) (leB rfl) (by kernel_rfl) trivial
      · refine w_skip ?_
        refine hK_1110 _ ⟨[(1, .s (.int .u64 x_1097)), (2, .s (.int .u64 x_1101)), (6, .ptr 0 0)], [(0, ⟨31, 0, [I 0, I 0]⟩)], 1⟩ (to_trim (by kernel_rfl) (leB rfl)) ?_
        refine w_reg ⟨[(6, .ptr 0 0), (7, I 0)], [(0, ⟨31, 0, [I (IntKind.i64.wrap x_1097), I (IntKind.i64.wrap x_1101)]⟩)], 1⟩ (by kernel_rfl) (leB rfl) ?_
        refine w_ret ?_
        obtain rfl := ((Option.some.inj h).symm).symm
        exact ret_leaf (.inl rfl) ⟨[(6, .ptr 0 0), (7, I 0)], [(0, ⟨31, 0, (cs_Ratio (D.Ratio.mk (IntKind.i64.wrap x_1097) (IntKind.i64.wrap x_1101)))⟩)], 1⟩ (to_ren [] (leB rfl) (by kernel_rfl) (by kernel_rfl) (renE_of (by kernel_rfl) (by kernel_rfl)) ⟨reRn (by kernel_rfl) (leB rfl) (by kernel_rfl), trivial⟩) [.agg (cs_Ratio (D.Ratio.mk (IntKind.i64.wrap x_1097) (IntKind.i64.wrap x_1101))), I 0] (by kernel_rfl) (by kernel_rfl) (leB rfl) (by kernel_rfl) trivial
/-- estoppel/ratio.Make -/
def g_ratio_Make (a1 : Int) (a2 : Int) : Option (D.Ratio × Int) :=
  if (a2 == 0) = true then
  some ((D.Ratio.mk 0 0), 1)
  else
  (g_ratio_magnitude a1).bind fun x_1137 =>
  (g_ratio_magnitude a2).bind fun x_1139 =>
  (g_ratio_reduced (!((decide (a1 < 0)) == (decide (a2 < 0)))) x_1137 x_1139).bind fun x_1141 =>
  some (x_1141.1, x_1141.2)
set_option maxHeartbeats 4000000 in
theorem g_ratio_Make_ok {a1 : Int} {a2 : Int} {res : D.Ratio × Int} (h : g_ratio_Make a1 a2 = some res) : SpecK Tryd.prog [] 49 [I a1, I a2] [] 0 (.tup [.agg (cs_Ratio res.1), I res.2]) [] 0 := by
  refine ⟨spec_of_wp Tryd.func49 (by kernel_rfl) rfl Tryd.ntmps49 (by rw [Tryd.results49]) (leB rfl) ?_, by kernel_rfl, trivial, by kernel_rfl, trivial, by kernel_rfl⟩
  unfold g_ratio_Make at h
  refine w_reg ⟨[(0, I a1), (1, I a2), (4, .ptr 0 0)], [(0, ⟨31, 0, [I 0, I 0]⟩)], 1⟩ (by kernel_rfl) (leB rfl) ?_
  refine w_assoc ?_
  refine w_reg ⟨[(0, I a1), (1, I a2), (4, .ptr 0 0), (7, B (a2 == 0))], [(0, ⟨31, 0, [I 0, I 0]⟩)], 1⟩ (by kernel_rfl) (leB rfl) ?_
  refine w_seq (fun K hK_1128 => ?_)
  refine w_ite h (by kernel_rfl) (fun h_1129 h => ?_) (fun h_1129 h => ?_)
  · refine w_reg ⟨[(4, .ptr 0 0), (5, I 1)], [(0, ⟨31, 0, [I 0, I 0]⟩)], 1⟩ (by kernel_rfl) (leB rfl) ?_
    refine w_ret ?_
    obtain rfl := ((Option.some.inj h).symm).symm
    exact ret_leaf (.inl rfl) ⟨[(4, .ptr 0 0), (5, I 1)], [(0, ⟨31, 0, (cs_Ratio (D.Ratio.mk 0 0))⟩)], 1⟩ (to_ren [] (leB rfl) (by kernel_rfl) (by kernel_rfl) (renE_of (by kernel_rfl) (by kernel_rfl)) ⟨reRn (by kernel_rfl) (leB rfl) (by kernel_rfl), trivial⟩) [.agg (cs_Ratio (D.Ratio.mk 0 0)), I 1] (by kernel_rfl) (by kernel_rfl) (leB rfl) (by kernel_rfl) trivial
  · refine w_skip ?_
    refine hK_1128 _ ⟨[(0, I a1), (1, I a2), (4, .ptr 0 0)], [(0, ⟨31, 0, [I 0, I 0]⟩)], 1⟩ (to_trim (by kernel_rfl) (leB rfl)) ?_
    refine w_seq (fun K hK_1136 => w_reg0 ?_)
    refine dd_run 0 6 rfl (by kernel_rfl) ?_
    obtain ⟨x_1137, h_1138, h⟩ := bind_some' h
    refine dd_one 6 (.call ⟨.value (.func 45), #[(.tmp 14)], #[3]⟩) (some 15) (by kernel_rfl) (o_callP (g_ratio_magnitude_ok h_1138) (by kernel_rfl) rfl) ?_
    refine dd_run 7 8 rfl (by kernel_rfl) ?_
    obtain ⟨x_1139, h_1140, h⟩ := bind_some' h
    refine dd_one 8 (.call ⟨.value (.func 45), #[(.tmp 16)], #[3]⟩) (some 17) (by kernel_rfl) (o_callP (g_ratio_magnitude_ok h_1140) (by kernel_rfl) rfl) ?_
    obtain ⟨x_1141, h_1142, h⟩ := bind_some' h
    refine dd_one 9 (.call ⟨.value (.func 56), #[(.tmp 13), (.tmp 15), (.tmp 17)], #[4, 69, 69]⟩) (some 18) (by kernel_rfl) (o_callP (g_ratio_reduced_ok h_1142) (by kernel_rfl) rfl) ?_
    refine ops_fin' hK_1136 ⟨[(4, .ptr 0 0), (5, I x_1141.2)], [(0, ⟨31, 0, (cs_Ratio x_1141.1)⟩)], 1⟩ (by kernel_rfl) (leB rfl) ?_
    refine w_ret ?_
    obtain rfl := ((Option.some.inj h).symm).symm
    exact ret_leaf (.inl rfl) ⟨[(4, .ptr 0 0), (5, I x_1141.2)], [(0, ⟨31, 0, (cs_Ratio x_1141.1)⟩)], 1⟩ (to_ren [] (leB rfl) (by kernel_rfl) (by kernel_rfl) (renE_of (by kernel_rfl) (by kernel_rfl)) ⟨reRn (by kernel_rfl) (leB rfl) (by kernel_rfl), trivial⟩) [.agg (cs_Ratio x_1141.1), I x_1141.2] (by kernel_rfl) (by kernel_rfl) (leB rfl) (by kernel_rfl) trivial
/-- estoppel/ratio.Add$1 -/
def g_ratio_Add_1 (a1 : D.Ratio) (a2 : D.Ratio) : Option (D.Ratio × Int) :=
  (g_ratio_Make (IntKind.i64.wrap ((IntKind.i64.wrap (a1.Num * a2.Den)) + (IntKind.i64.wrap (a2.Num * a1.Den)))) (IntKind.i64.wrap (a1.Den * a2.Den))).bind fun x_1151 =>
  some (x_1151.1, x_1151.2)
set_option maxHeartbeats 4000000 in
theorem g_ratio_Add_1_ok {a1 : D.Ratio} {a2 : D.Ratio} {res : D.Ratio × Int} (h : g_ratio_Add_1 a1 a2 = some res) : SpecK Tryd.prog [] 48 [.ip (cs_Ratio a1), .ip (cs_Ratio a2)] [] 0 (.tup [.agg (cs_Ratio res.1), I res.2]) [] 0 := by
  refine ⟨spec_of_wp Tryd.func48 (by kernel_rfl) rfl Tryd.ntmps48 (by rw [Tryd.results48]) (leB rfl) ?_, by kernel_rfl, trivial, by kernel_rfl, trivial, by kernel_rfl⟩
  unfold g_ratio_Add_1 at h
  refine w_reg ⟨[(0, .ip (cs_Ratio a1)), (1, .ip (cs_Ratio a2)), (2, .ptr 0 0)], [(0, ⟨31, 0, [I 0, I 0]⟩)], 1⟩ (by kernel_rfl) (leB rfl) ?_
  refine w_seq (fun K hK_1150 => w_reg0 ?_)
  refine dd_run 0 16 rfl (by kernel_rfl) ?_
  obtain ⟨x_1151, h_1152, h⟩ := bind_some' h
  refine dd_one 16 (.call ⟨.value (.func 49), #[(.tmp 14), (.tmp 19)], #[3, 3]⟩) (some 20) (by kernel_rfl) (o_callP (g_ratio_Make_ok h_1152) (by kernel_rfl) rfl) ?_
  refine ops_fin' hK_1150 ⟨[(2, .ptr 0 0), (3, I x_1151.2)], [(0, ⟨31, 0, (cs_Ratio x_1151.1)⟩)], 1⟩ (by kernel_rfl) (leB rfl) ?_
  refine w_ret ?_
  obtain rfl := ((Option.some.inj h).symm).symm
  exact ret_leaf (.inl rfl) ⟨[(2, .ptr 0 0), (3, I x_1151.2)], [(0, ⟨31, 0, (cs_Ratio x_1151.1)⟩)], 1⟩ (to_ren [] (leB rfl) (by kernel_rfl) (by kernel_rfl) (renE_of (by kernel_rfl) (by kernel_rfl)) ⟨reRn (by kernel_rfl) (leB rfl) (by kernel_rfl), trivial⟩) [.agg (cs_Ratio x_1151.1), I x_1151.2] (by kernel_rfl) (by kernel_rfl) (leB rfl) (by kernel_rfl) trivial
/-- estoppel/ratio.on -/
def g_ratio_on_Add_1 (a1 : D.Ratio) (a2 : D.Ratio) (a3 : D.Ratio) (a4 : D.Ratio) : Option (D.Ratio × Int) :=
  bindF (ρ := Bool) (
  (g_ratio_Valid a1).bind fun x_1166 =>
  if (!x_1166) = true then
  some (.inl true)
  else
  (g_ratio_Valid a2).bind fun x_1169 =>
  some (.inl (!x_1169))) (fun (e_1163 : Bool) =>
  if e_1163 = true then
  some ((D.Ratio.mk 0 0), 1)
  else
  (g_ratio_Add_1 a3 a4).bind fun x_1177 =>
  some (x_1177.1, x_1177.2))
set_option maxHeartbeats 4000000 in
theorem g_ratio_on_Add_1_ok {a1 : D.Ratio} {a2 : D.Ratio} {a3 : D.Ratio} {a4 : D.Ratio} {res : D.Ratio × Int} (h : g_ratio_on_Add_1 a1 a2 a3 a4 = some res) : SpecK Tryd.prog [] 47 [.agg (cs_Ratio a1), .agg (cs_Ratio a2), .fn 48 [.ip (cs_Ratio a3), .ip (cs_Ratio a4)]] [] 0 (.tup [.agg (cs_Ratio res.1), I res.2]) [] 0 := by
  refine ⟨spec_of_wp Tryd.func47 (by kernel_rfl) rfl Tryd.ntmps47 (by rw [Tryd.results47]) (leB rfl) ?_, by kernel_rfl, trivial, by kernel_rfl, trivial, by kernel_rfl⟩
  unfold g_ratio_on_Add_1 at h
  refine w_reg ⟨[(2, .fn 48 [.ip (cs_Ratio a3), .ip (cs_Ratio a4)]), (3, .ip (cs_Ratio a1)), (4, .ip (cs_Ratio a2)), (6, .ptr 0 0)], [(0, ⟨31, 0, [I 0, I 0]⟩)], 1⟩ (by kernel_rfl) (leB rfl) ?_
  refine w_assoc ?_
  refine w_cut h (fun (e_1163 : Bool) => ⟨[(2, .fn 48 [.ip (cs_Ratio a3), .ip (cs_Ratio a4)]), (6, .ptr 0 0), (15, B e_1163)], [(0, ⟨31, 0, [I 0, I 0]⟩)], 1⟩) (fun o h h_1164 K hK_1165 => ?_) (fun e_1163 h => ?_)
  · refine w_reg0 ?_
    refine dd_run 0 1 rfl (by kernel_rfl) ?_
    obtain ⟨x_1166, h_1167, h⟩ := bind_some' h
    refine dd_one 1 (.call ⟨.value (.func 24), #[(.tmp 8)], #[31]⟩) (some 9) (by kernel_rfl) (o_callP (g_ratio_Valid_ok h_1167) (by kernel_rfl) rfl) ?_
    refine dd_run 2 4 rfl (by kernel_rfl) ?_
    refine ite_both h (fun h_1168 h => ?_) (fun h_1168 h => ?_)
    · refine dd_skip 4 7 3 false rfl (b := (!x_1166)) (by kernel_rfl) h_1168 (by kernel_rfl) ?_
      refine dd_one 7 (.pick (.tmp 11) (.const (.bool true)) (.tmp 14)) (some 15) (by kernel_rfl) (o_pure (B true) (ev_pickT h_1168 (by kernel_rfl) (by kernel_rfl)) rfl) ?_
      refine dd_nil 8 rfl ?_
      exact hK_1165 _ _ (Option.some.inj h).symm (to_ren [] (leB rfl) (by kernel_rfl) (by kernel_rfl) (renE_of (by kernel_rfl) (by kernel_rfl)) ⟨reRn (by kernel_rfl) (leB rfl) (by kernel_rfl), trivial⟩)
    · refine dd_runG 4 5 3 false rfl (b := (!x_1166)) (by kernel_rfl) h_1168 (by kernel_rfl) ?_
      obtain ⟨x_1169, h_1170, h⟩ := bind_some' h
      refine dd_oneG 5 (.call ⟨.value (.func 24), #[(.tmp 12)], #[31]⟩) (some 13) 3 false (b := (!x_1166)) (by kernel_rfl) (by kernel_rfl) h_1168 (o_callP (g_ratio_Valid_ok h_1170) (by kernel_rfl) rfl) ?_
      refine dd_runG 6 7 3 false rfl (b := (!x_1166)) (by kernel_rfl) h_1168 (by kernel_rfl) ?_
      refine dd_one 7 (.pick (.tmp 11) (.const (.bool true)) (.tmp 14)) (some 15) (by kernel_rfl) (o_pure (B (!x_1169)) (ev_pickF h_1168 (by kernel_rfl) (by kernel_rfl)) rfl) ?_
      refine dd_nil 8 rfl ?_
      exact hK_1165 _ _ (Option.some.inj h).symm (to_ren [] (leB rfl) (by kernel_rfl) (by kernel_rfl) (renE_of (by kernel_rfl) (by kernel_rfl)) ⟨reRn (by kernel_rfl) (leB rfl) (by kernel_rfl), trivial⟩)
  · refine w_seq (fun K hK_1172 => ?_)
    refine w_ite h (by kernel_rfl) (fun h_1173 h => ?_) (fun h_1173 h => ?_)
    · refine w_reg ⟨[(6, .ptr 0 0), (7, I 1)], [(0, ⟨31, 0, [I 0, I 0]⟩)], 1⟩ (by kernel_rfl) (leB rfl) ?_
      refine w_ret ?_
      obtain rfl := ((Option.some.inj h).symm).symm
      exact ret_leaf (.inl rfl) ⟨[(6, .ptr 0 0), (7, I 1)], [(0, ⟨31, 0, (cs_Ratio (D.Ratio.mk 0 0))⟩)], 1⟩ (to_ren [] (leB rfl) (by kernel_rfl) (by kernel_rfl) (renE_of (by kernel_rfl) (by kernel_rfl)) ⟨reRn (by kernel_rfl) (leB rfl) (by kernel_rfl), trivial⟩) [.agg (cs_Ratio (D.Ratio.mk 0 0)), I 1] (by kernel_rfl) (by kernel_rfl) (leB rfl) (by kernel_rfl) trivial
    · refine w_skip ?_
      refine hK_1172 _ ⟨[(2, .fn 48 [.ip (cs_Ratio a3), .ip (cs_Ratio a4)]), (6, .ptr 0 0)], [(0, ⟨31, 0, [I 0, I 0]⟩)], 1⟩ (to_trim (by kernel_rfl) (leB rfl)) ?_
      refine w_seq (fun K hK_1176 => w_reg0 ?_)
      refine dd_run 0 1 rfl (by kernel_rfl) ?_
      obtain ⟨x_1177, h_1178, h⟩ := bind_some' h
      refine dd_one 1 (.call ⟨.value (.tmp 17), #[], #[]⟩) (some 18) (by kernel_rfl) (o_callP (g_ratio_Add_1_ok h_1178) (by kernel_rfl) rfl) ?_
      refine ops_fin' hK_1176 ⟨[(6, .ptr 0 0), (7, I x_1177.2)], [(0, ⟨31, 0, (cs_Ratio x_1177.1)⟩)], 1⟩ (by kernel_rfl) (leB rfl) ?_
      refine w_ret ?_
      obtain rfl := ((Option.some.inj h).symm).symm
      exact ret_leaf (.inl rfl) ⟨[(6, .ptr 0 0), (7, I x_1177.2)], [(0, ⟨31, 0, (cs_Ratio x_1177.1)⟩)], 1⟩ (to_ren [] (leB rfl) (by kernel_rfl) (by kernel_rfl) (renE_of (by kernel_rfl) (by kernel_rfl)) ⟨reRn (by kernel_rfl) (leB rfl) (by kernel_rfl), trivial⟩) [.agg (cs_Ratio x_1177.1), I x_1177.2] (by kernel_rfl) (by kernel_rfl) (leB rfl) (by kernel_rfl) trivial
/-- estoppel/ratio.Add -/
def g_ratio_Add (a1 : D.Ratio) (a2 : D.Ratio) : Option (D.Ratio × Int) :=
  (g_ratio_on_Add_1 a1 a2 a1 a2).bind fun x_1187 =>
  some (x_1187.1, x_1187.2)
set_option maxHeartbeats 4000000 in
theorem g_ratio_Add_ok {a1 : D.Ratio} {a2 : D.Ratio} {res : D.Ratio × Int} (h : g_ratio_Add a1 a2 = some res) : SpecK Tryd.prog [] 25 [.agg (cs_Ratio a1), .agg (cs_Ratio a2)] [] 0 (.tup [.agg (cs_Ratio res.1), I res.2]) [] 0 := by
  refine ⟨spec_of_wp Tryd.func25 (by kernel_rfl) rfl Tryd.ntmps25 (by rw [Tryd.results25]) (leB rfl) ?_, by kernel_rfl, trivial, by kernel_rfl, trivial, by kernel_rfl⟩
  unfold g_ratio_Add at h
  refine w_reg ⟨[(2, .ip (cs_Ratio a1)), (3, .ip (cs_Ratio a2)), (4, .ptr 0 0)], [(0, ⟨31, 0, [I 0, I 0]⟩)], 1⟩ (by kernel_rfl) (leB rfl) ?_
  refine w_seq (fun K hK_1186 => w_reg0 ?_)
  refine dd_run 0 3 rfl (by kernel_rfl) ?_
  obtain ⟨x_1187, h_1188, h⟩ := bind_some' h
  refine dd_one 3 (.call ⟨.value (.func 47), #[(.tmp 6), (.tmp 7), (.tmp 8)], #[31, 31, 74]⟩) (some 9) (by kernel_rfl) (o_callP (g_ratio_on_Add_1_ok h_1188) (by kernel_rfl) rfl) ?_
  refine ops_fin' hK_1186 ⟨[(4, .ptr 0 0), (5, I x_1187.2)], [(0, ⟨31, 0, (cs_Ratio x_1187.1)⟩)], 1⟩ (by kernel_rfl) (leB rfl) ?_
  refine w_ret ?_
  obtain rfl := ((Option.some.inj h).symm).symm
  exact ret_leaf (.inl rfl) ⟨[(4, .ptr 0 0), (5, I x_1187.2)], [(0, ⟨31, 0, (cs_Ratio x_1187.1)⟩)], 1⟩ (to_ren [] (leB rfl) (by kernel_rfl) (by kernel_rfl) (renE_of (by kernel_rfl) (by kernel_rfl)) ⟨reRn (by kernel_rfl) (leB rfl) (by kernel_rfl), trivial⟩) [.agg (cs_Ratio x_1187.1), I x_1187.2] (by kernel_rfl) (by kernel_rfl) (leB rfl) (by kernel_rfl) trivial
end Go.Proofs.YtdfokoapenhalaaDoor.Ab
