/- Functions of the program as plain functions (printed by wip/dec.py). -/
import Derived.Test.YtgggekjhfdkgkaaDx7
namespace Go.Proofs.Ytgggekjhfdkgkaa.Ab
open Go Go.RowKit Go.Shelf
/-- estoppel/estoppelref01.Valid -/
def g_estoppelref01_Valid (a1 : D.Ratio) : Option (Bool) :=
  if (decide (a1.Den ≥ 1)) = true then
  if (decide (a1.Den ≤ 1000000)) = true then
  if (decide (a1.Num ≥ (-1000000000000))) = true then
  if (decide (a1.Num ≤ 1000000000000)) = true then
  (g_estoppelref01_size a1.Num).bind fun x_15636 =>
  (g_estoppelref01_size a1.Den).bind fun x_15638 =>
  (g_estoppelref01_Gcd x_15636 x_15638).bind fun x_15640 =>
  some (x_15640 == 1)
  else
  some false
  else
  some false
  else
  some false
  else
  some false
set_option maxHeartbeats 4000000 in
theorem g_estoppelref01_Valid_ok {a1 : D.Ratio} {res : Bool} (h : g_estoppelref01_Valid a1 = some res) : SpecK Try.prog [] 44 [.agg (cs_Ratio a1)] [] 0 (B res) [] 0 := by
  refine ⟨spec_of_wp Try.func44 (by kernel_rfl) rfl Try.ntmps44 (by rw [Try.results44]) (leB rfl) ?_, by kernel_rfl, trivial, by kernel_rfl, trivial, by kernel_rfl⟩
  unfold g_estoppelref01_Valid at h
  refine w_reg ⟨[(1, .ip (cs_Ratio a1))], [], 0⟩ (by kernel_rfl) (leB rfl) ?_
  refine w_seq (fun K hK_15631 => w_mix0 (by kernel_rfl) (by kernel_rfl) ?_)
  refine mm_run 0 4 rfl (by kernel_rfl) ?_
  refine ite_both h (fun h_15632 h => ?_) (fun h_15632 h => ?_)
  · refine mm_oneG 4 (.fieldAddr 34 (.tmp 1) 1) (some 7) 3 true (b := (decide (a1.Den ≥ 1))) (by kernel_rfl) (by kernel_rfl) (by kernel_rfl) h_15632 (oH_pure (.ip (((cs_Ratio a1)).drop 1)) (by kernel_rfl) rfl) ?_
    refine mm_oneG 5 (.load 3 (.tmp 7)) (some 8) 3 true (b := (decide (a1.Den ≥ 1))) (by kernel_rfl) (by kernel_rfl) (by kernel_rfl) h_15632 (oH_pure (I a1.Den) (by kernel_rfl) rfl) ?_
    refine mm_oneG 6 (.binOp .leq 3 (.tmp 8) (.const (.int .i64 (1000000))) 3) (some 9) 3 true (b := (decide (a1.Den ≥ 1))) (by kernel_rfl) (by kernel_rfl) (by kernel_rfl) h_15632 (oH_pure (B (decide (a1.Den ≤ 1000000))) (by kernel_rfl) rfl) ?_
    refine mm_one 7 (.pick (.tmp 6) (.tmp 9) (.const (.bool false))) (some 10) (by kernel_rfl) (by kernel_rfl) (oH_pure (B (decide (a1.Den ≤ 1000000))) (ev_pickT h_15632 (by kernel_rfl) (by kernel_rfl)) rfl) ?_
    refine mm_run 8 9 rfl (by kernel_rfl) ?_
    refine ite_both h (fun h_15633 h => ?_) (fun h_15633 h => ?_)
    · refine mm_oneG 9 (.fieldAddr 34 (.tmp 1) 0) (some 12) 8 true (b := (decide (a1.Den ≤ 1000000))) (by kernel_rfl) (by kernel_rfl) (by kernel_rfl) h_15633 (oH_pure (.ip (cs_Ratio a1)) (by kernel_rfl) rfl) ?_
      refine mm_oneG 10 (.load 3 (.tmp 12)) (some 13) 8 true (b := (decide (a1.Den ≤ 1000000))) (by kernel_rfl) (by kernel_rfl) (by kernel_rfl) h_15633 (oH_pure (I a1.Num) (by kernel_rfl) rfl) ?_
      refine mm_oneG 11 (.binOp .geq 3 (.tmp 13) (.const (.int .i64 (-1000000000000))) 3) (some 14) 8 true (b := (decide (a1.Den ≤ 1000000))) (by kernel_rfl) (by kernel_rfl) (by kernel_rfl) h_15633 (oH_pure (B (decide (a1.Num ≥ (-1000000000000)))) (by kernel_rfl) rfl) ?_
      refine mm_one 12 (.pick (.tmp 11) (.tmp 14) (.const (.bool false))) (some 15) (by kernel_rfl) (by kernel_rfl) (oH_pure (B (decide (a1.Num ≥ (-1000000000000)))) (ev_pickT h_15633 (by kernel_rfl) (by kernel_rfl)) rfl) ?_
      refine mm_run 13 14 rfl (by kernel_rfl) ?_
      refine ite_both h (fun h_15634 h => ?_) (fun h_15634 h => ?_)
      · refine mm_oneG 14 (.fieldAddr 34 (.tmp 1) 0) (some 17) 13 true (b := (decide (a1.Num ≥ (-1000000000000)))) (by kernel_rfl) (by kernel_rfl) (by kernel_rfl) h_15634 (oH_pure (.ip (cs_Ratio a1)) (by kernel_rfl) rfl) ?_
        refine mm_oneG 15 (.load 3 (.tmp 17)) (some 18) 13 true (b := (decide (a1.Num ≥ (-1000000000000)))) (by kernel_rfl) (by kernel_rfl) (by kernel_rfl) h_15634 (oH_pure (I a1.Num) (by kernel_rfl) rfl) ?_
        refine mm_oneG 16 (.binOp .leq 3 (.tmp 18) (.const (.int .i64 (1000000000000))) 3) (some 19) 13 true (b := (decide (a1.Num ≥ (-1000000000000)))) (by kernel_rfl) (by kernel_rfl) (by kernel_rfl) h_15634 (oH_pure (B (decide (a1.Num ≤ 1000000000000))) (by kernel_rfl) rfl) ?_
        refine mm_one 17 (.pick (.tmp 16) (.tmp 19) (.const (.bool false))) (some 20) (by kernel_rfl) (by kernel_rfl) (oH_pure (B (decide (a1.Num ≤ 1000000000000))) (ev_pickT h_15634 (by kernel_rfl) (by kernel_rfl)) rfl) ?_
        refine mm_run 18 19 rfl (by kernel_rfl) ?_
        refine ite_both h (fun h_15635 h => ?_) (fun h_15635 h => ?_)
        · refine mm_oneG 19 (.fieldAddr 34 (.tmp 1) 0) (some 22) 18 true (b := (decide (a1.Num ≤ 1000000000000))) (by kernel_rfl) (by kernel_rfl) (by kernel_rfl) h_15635 (oH_pure (.ip (cs_Ratio a1)) (by kernel_rfl) rfl) ?_
          refine mm_oneG 20 (.load 3 (.tmp 22)) (some 23) 18 true (b := (decide (a1.Num ≤ 1000000000000))) (by kernel_rfl) (by kernel_rfl) (by kernel_rfl) h_15635 (oH_pure (I a1.Num) (by kernel_rfl) rfl) ?_
          obtain ⟨x_15636, h_15637, h⟩ := bind_some' h
          refine mm_oneG 21 (.call ⟨.value (.func 56), #[(.tmp 23)], #[3]⟩) (some 24) 18 true (b := (decide (a1.Num ≤ 1000000000000))) (by kernel_rfl) (by kernel_rfl) (by kernel_rfl) h_15635 (oH_callP (g_estoppelref01_size_ok h_15637) (by kernel_rfl) rfl) ?_
          refine mm_oneG 22 (.fieldAddr 34 (.tmp 1) 1) (some 25) 18 true (b := (decide (a1.Num ≤ 1000000000000))) (by kernel_rfl) (by kernel_rfl) (by kernel_rfl) h_15635 (oH_pure (.ip (((cs_Ratio a1)).drop 1)) (by kernel_rfl) rfl) ?_
          refine mm_oneG 23 (.load 3 (.tmp 25)) (some 26) 18 true (b := (decide (a1.Num ≤ 1000000000000))) (by kernel_rfl) (by kernel_rfl) (by kernel_rfl) h_15635 (oH_pure (I a1.Den) (by kernel_rfl) rfl) ?_
          obtain ⟨x_15638, h_15639, h⟩ := bind_some' h
          refine mm_oneG 24 (.call ⟨.value (.func 56), #[(.tmp 26)], #[3]⟩) (some 27) 18 true (b := (decide (a1.Num ≤ 1000000000000))) (by kernel_rfl) (by kernel_rfl) (by kernel_rfl) h_15635 (oH_callP (g_estoppelref01_size_ok h_15639) (by kernel_rfl) rfl) ?_
          obtain ⟨x_15640, h_15641, h⟩ := bind_some' h
          refine mm_oneG 25 (.call ⟨.value (.func 55), #[(.tmp 24), (.tmp 27)], #[65, 65]⟩) (some 28) 18 true (b := (decide (a1.Num ≤ 1000000000000))) (by kernel_rfl) (by kernel_rfl) (by kernel_rfl) h_15635 (oH_callP (g_estoppelref01_Gcd_ok h_15641) (by kernel_rfl) rfl) ?_
          refine mm_oneG 26 (.binOp .eql 65 (.tmp 28) (.const (.int .u64 (1))) 65) (some 29) 18 true (b := (decide (a1.Num ≤ 1000000000000))) (by kernel_rfl) (by kernel_rfl) (by kernel_rfl) h_15635 (oH_pure (B (x_15640 == 1)) (by kernel_rfl) rfl) ?_
          refine mm_one 27 (.pick (.tmp 21) (.tmp 29) (.const (.bool false))) (some 30) (by kernel_rfl) (by kernel_rfl) (oH_pure (B (x_15640 == 1)) (ev_pickT h_15635 (by kernel_rfl) (by kernel_rfl)) rfl) ?_
          refine mix_fin' hK_15631 ⟨[(2, B (x_15640 == 1))], [], 0⟩ (by kernel_rfl) (leB rfl) ?_
          refine w_ret ?_
          obtain rfl := ((Option.some.inj h).symm).symm
          exact ret_leaf (.inl rfl) ⟨[(2, B (x_15640 == 1))], [], 0⟩ (to_ren [] (leB rfl) (by kernel_rfl) (by kernel_rfl) (renE_of (by kernel_rfl) (by kernel_rfl)) trivial) [B (x_15640 == 1)] (by kernel_rfl) (by kernel_rfl) (leB rfl) (by kernel_rfl) trivial
        · refine mm_skip 19 (.fieldAddr 34 (.tmp 1) 0) (some 22) 18 true (b := (decide (a1.Num ≤ 1000000000000))) (by kernel_rfl) (by kernel_rfl) (by kernel_rfl) h_15635 rfl ?_
          refine mm_skip 20 (.load 3 (.tmp 22)) (some 23) 18 true (b := (decide (a1.Num ≤ 1000000000000))) (by kernel_rfl) (by kernel_rfl) (by kernel_rfl) h_15635 rfl ?_
          refine mm_skip 21 (.call ⟨.value (.func 56), #[(.tmp 23)], #[3]⟩) (some 24) 18 true (b := (decide (a1.Num ≤ 1000000000000))) (by kernel_rfl) (by kernel_rfl) (by kernel_rfl) h_15635 rfl ?_
          refine mm_skip 22 (.fieldAddr 34 (.tmp 1) 1) (some 25) 18 true (b := (decide (a1.Num ≤ 1000000000000))) (by kernel_rfl) (by kernel_rfl) (by kernel_rfl) h_15635 rfl ?_
          refine mm_skip 23 (.load 3 (.tmp 25)) (some 26) 18 true (b := (decide (a1.Num ≤ 1000000000000))) (by kernel_rfl) (by kernel_rfl) (by kernel_rfl) h_15635 rfl ?_
          refine mm_skip 24 (.call ⟨.value (.func 56), #[(.tmp 26)], #[3]⟩) (some 27) 18 true (b := (decide (a1.Num ≤ 1000000000000))) (by kernel_rfl) (by kernel_rfl) (by kernel_rfl) h_15635 rfl ?_
          refine mm_skip 25 (.call ⟨.value (.func 55), #[(.tmp 24), (.tmp 27)], #[65, 65]⟩) (some 28) 18 true (b := (decide (a1.Num ≤ 1000000000000))) (by kernel_rfl) (by kernel_rfl) (by kernel_rfl) h_15635 rfl ?_
          refine mm_skip 26 (.binOp .eql 65 (.tmp 28) (.const (.int .u64 (1))) 65) (some 29) 18 true (b := (decide (a1.Num ≤ 1000000000000))) (by kernel_rfl) (by kernel_rfl) (by kernel_rfl) h_15635 rfl ?_
          refine mm_one 27 (.pick (.tmp 21) (.tmp 29) (.const (.bool false))) (some 30) (by kernel_rfl) (by kernel_rfl) (oH_pure (B false) (ev_pickF h_15635 (by kernel_rfl) (by kernel_rfl)) rfl) ?_
          refine mix_fin' hK_15631 ⟨[(2, B false)], [], 0⟩ (by kernel_rfl) (leB rfl) ?_
          refine w_ret ?_
          obtain rfl := ((Option.some.inj h).symm).symm
          exact ret_leaf (.inl rfl) ⟨[(2, B false)], [], 0⟩ (to_ren [] (leB rfl) (by kernel_rfl) (by kernel_rfl) (renE_of (by kernel_rfl) (by kernel_rfl)) trivial) [B false] (by kernel_rfl) (by kernel_rfl) (leB rfl) (by kernel_rfl) trivial
      · refine mm_skip 14 (.fieldAddr 34 (.tmp 1) 0) (some 17) 13 true (b := (decide (a1.Num ≥ (-1000000000000)))) (by kernel_rfl) (by kernel_rfl) (by kernel_rfl) h_15634 rfl ?_
        refine mm_skip 15 (.load 3 (.tmp 17)) (some 18) 13 true (b := (decide (a1.Num ≥ (-1000000000000)))) (by kernel_rfl) (by kernel_rfl) (by kernel_rfl) h_15634 rfl ?_
        refine mm_skip 16 (.binOp .leq 3 (.tmp 18) (.const (.int .i64 (1000000000000))) 3) (some 19) 13 true (b := (decide (a1.Num ≥ (-1000000000000)))) (by kernel_rfl) (by kernel_rfl) (by kernel_rfl) h_15634 rfl ?_
        refine mm_one 17 (.pick (.tmp 16) (.tmp 19) (.const (.bool false))) (some 20) (by kernel_rfl) (by kernel_rfl) (oH_pure (B false) (ev_pickF h_15634 (by kernel_rfl) (by kernel_rfl)) rfl) ?_
        refine mm_run 18 19 rfl (by kernel_rfl) ?_
        refine mm_skip 19 (.fieldAddr 34 (.tmp 1) 0) (some 22) 18 true (b := false) (by kernel_rfl) (by kernel_rfl) (by kernel_rfl) rfl rfl ?_
        refine mm_skip 20 (.load 3 (.tmp 22)) (some 23) 18 true (b := false) (by kernel_rfl) (by kernel_rfl) (by kernel_rfl) rfl rfl ?_
        refine mm_skip 21 (.call ⟨.value (.func 56), #[(.tmp 23)], #[3]⟩) (some 24) 18 true (b := false) (by kernel_rfl) (by kernel_rfl) (by kernel_rfl) rfl rfl ?_
        refine mm_skip 22 (.fieldAddr 34 (.tmp 1) 1) (some 25) 18 true (b := false) (by kernel_rfl) (by kernel_rfl) (by kernel_rfl) rfl rfl ?_
        refine mm_skip 23 (.load 3 (.tmp 25)) (some 26) 18 true (b := false) (by kernel_rfl) (by kernel_rfl) (by kernel_rfl) rfl rfl ?_
        refine mm_skip 24 (.call ⟨.value (.func 56), #[(.tmp 26)], #[3]⟩) (some 27) 18 true (b := false) (by kernel_rfl) (by kernel_rfl) (by kernel_rfl) rfl rfl ?_
        refine mm_skip 25 (.call ⟨.value (.func 55), #[(.tmp 24), (.tmp 27)], #[65, 65]⟩) (some 28) 18 true (b := false) (by kernel_rfl) (by kernel_rfl) (by kernel_rfl) rfl rfl ?_
        refine mm_skip 26 (.binOp .eql 65 (.tmp 28) (.const (.int .u64 (1))) 65) (some 29) 18 true (b := false) (by kernel_rfl) (by kernel_rfl) (by kernel_rfl) rfl rfl ?_
        refine mix_fin' hK_15631 ⟨[(2, B false)], [], 0⟩ (by kernel_rfl) (leB rfl) ?_
        refine w_ret ?_
        obtain rfl := ((Option.some.inj h).symm).symm
        exact ret_leaf (.inl rfl) ⟨[(2, B false)], [], 0⟩ (to_ren [] (leB rfl) (by kernel_rfl) (by kernel_rfl) (renE_of (by kernel_rfl) (by kernel_rfl)) trivial) [B false] (by kernel_rfl) (by kernel_rfl) (leB rfl) (by kernel_rfl) trivial
    · refine mm_skip 9 (.fieldAddr 34 (.tmp 1) 0) (some 12) 8 true (b := (decide (a1.Den ≤ 1000000))) (by kernel_rfl) (by kernel_rfl) (by kernel_rfl) h_15633 rfl ?_
      refine mm_skip 10 (.load 3 (.tmp 12)) (some 13) 8 true (b := (decide (a1.Den ≤ 1000000))) (by kernel_rfl) (by kernel_rfl) (by kernel_rfl) h_15633 rfl ?_
      refine mm_skip 11 (.binOp .geq 3 (.tmp 13) (.const (.int .i64 (-1000000000000))) 3) (some 14) 8 true (b := (decide (a1.Den ≤ 1000000))) (by kernel_rfl) (by kernel_rfl) (by kernel_rfl) h_15633 rfl ?_
      refine mm_one 12 (.pick (.tmp 11) (.tmp 14) (.const (.bool false))) (some 15) (by kernel_rfl) (by kernel_rfl) (oH_pure (B false) (ev_pickF h_15633 (by kernel_rfl) (by kernel_rfl)) rfl) ?_
      refine mm_run 13 14 rfl (by kernel_rfl) ?_
      refine mm_skip 14 (.fieldAddr 34 (.tmp 1) 0) (some 17) 13 true (b := false) (by kernel_rfl) (by kernel_rfl) (by kernel_rfl) rfl rfl ?_
      refine mm_skip 15 (.load 3 (.tmp 17)) (some 18) 13 true (b := false) (by kernel_rfl) (by kernel_rfl) (by kernel_rfl) rfl rfl ?_
      refine mm_skip 16 (.binOp .leq 3 (.tmp 18) (.const (.int .i64 (1000000000000))) 3) (some 19) 13 true (b := false) (by kernel_rfl) (by kernel_rfl) (by kernel_rfl) rfl rfl ?_
      refine mm_run 17 19 rfl (by kernel_rfl) ?_
      refine mm_skip 19 (.fieldAddr 34 (.tmp 1) 0) (some 22) 18 true (b := false) (by kernel_rfl) (by kernel_rfl) (by kernel_rfl) rfl rfl ?_
      refine mm_skip 20 (.load 3 (.tmp 22)) (some 23) 18 true (b := false) (by kernel_rfl) (by kernel_rfl) (by kernel_rfl) rfl rfl ?_
      refine mm_skip 21 (.call ⟨.value (.func 56), #[(.tmp 23)], #[3]⟩) (some 24) 18 true (b := false) (by kernel_rfl) (by kernel_rfl) (by kernel_rfl) rfl rfl ?_
      refine mm_skip 22 (.fieldAddr 34 (.tmp 1) 1) (some 25) 18 true (b := false) (by kernel_rfl) (by kernel_rfl) (by kernel_rfl) rfl rfl ?_
      refine mm_skip 23 (.load 3 (.tmp 25)) (some 26) 18 true (b := false) (by kernel_rfl) (by kernel_rfl) (by kernel_rfl) rfl rfl ?_
      refine mm_skip 24 (.call ⟨.value (.func 56), #[(.tmp 26)], #[3]⟩) (some 27) 18 true (b := false) (by kernel_rfl) (by kernel_rfl) (by kernel_rfl) rfl rfl ?_
      refine mm_skip 25 (.call ⟨.value (.func 55), #[(.tmp 24), (.tmp 27)], #[65, 65]⟩) (some 28) 18 true (b := false) (by kernel_rfl) (by kernel_rfl) (by kernel_rfl) rfl rfl ?_
      refine mm_skip 26 (.binOp .eql 65 (.tmp 28) (.const (.int .u64 (1))) 65) (some 29) 18 true (b := false) (by kernel_rfl) (by kernel_rfl) (by kernel_rfl) rfl rfl ?_
      refine mix_fin' hK_15631 ⟨[(2, B false)], [], 0⟩ (by kernel_rfl) (leB rfl) ?_
      refine w_ret ?_
      obtain rfl := ((Option.some.inj h).symm).symm
      exact ret_leaf (.inl rfl) ⟨[(2, B false)], [], 0⟩ (to_ren [] (leB rfl) (by kernel_rfl) (by kernel_rfl) (renE_of (by kernel_rfl) (by kernel_rfl)) trivial) [B false] (by kernel_rfl) (by kernel_rfl) (leB rfl) (by kernel_rfl) trivial
  · refine mm_skip 4 (.fieldAddr 34 (.tmp 1) 1) (some 7) 3 true (b := (decide (a1.Den ≥ 1))) (by kernel_rfl) (by kernel_rfl) (by kernel_rfl) h_15632 rfl ?_
    refine mm_skip 5 (.load 3 (.tmp 7)) (some 8) 3 true (b := (decide (a1.Den ≥ 1))) (by kernel_rfl) (by kernel_rfl) (by kernel_rfl) h_15632 rfl ?_
    refine mm_skip 6 (.binOp .leq 3 (.tmp 8) (.const (.int .i64 (1000000))) 3) (some 9) 3 true (b := (decide (a1.Den ≥ 1))) (by kernel_rfl) (by kernel_rfl) (by kernel_rfl) h_15632 rfl ?_
    refine mm_one 7 (.pick (.tmp 6) (.tmp 9) (.const (.bool false))) (some 10) (by kernel_rfl) (by kernel_rfl) (oH_pure (B false) (ev_pickF h_15632 (by kernel_rfl) (by kernel_rfl)) rfl) ?_
    refine mm_run 8 9 rfl (by kernel_rfl) ?_
    refine mm_skip 9 (.fieldAddr 34 (.tmp 1) 0) (some 12) 8 true (b := false) (by kernel_rfl) (by kernel_rfl) (by kernel_rfl) rfl rfl ?_
    refine mm_skip 10 (.load 3 (.tmp 12)) (some 13) 8 true (b := false) (by kernel_rfl) (by kernel_rfl) (by kernel_rfl) rfl rfl ?_
    refine mm_skip 11 (.binOp .geq 3 (.tmp 13) (.const (.int .i64 (-1000000000000))) 3) (some 14) 8 true (b := false) (by kernel_rfl) (by kernel_rfl) (by kernel_rfl) rfl rfl ?_
    refine mm_run 12 14 rfl (by kernel_rfl) ?_
    refine mm_skip 14 (.fieldAddr 34 (.tmp 1) 0) (some 17) 13 true (b := false) (by kernel_rfl) (by kernel_rfl) (by kernel_rfl) rfl rfl ?_
    refine mm_skip 15 (.load 3 (.tmp 17)) (some 18) 13 true (b := false) (by kernel_rfl) (by kernel_rfl) (by kernel_rfl) rfl rfl ?_
    refine mm_skip 16 (.binOp .leq 3 (.tmp 18) (.const (.int .i64 (1000000000000))) 3) (some 19) 13 true (b := false) (by kernel_rfl) (by kernel_rfl) (by kernel_rfl) rfl rfl ?_
    refine mm_run 17 19 rfl (by kernel_rfl) ?_
    refine mm_skip 19 (.fieldAddr 34 (.tmp 1) 0) (some 22) 18 true (b := false) (by kernel_rfl) (by kernel_rfl) (by kernel_rfl) rfl rfl ?_
    refine mm_skip 20 (.load 3 (.tmp 22)) (some 23) 18 true (b := false) (by kernel_rfl) (by kernel_rfl) (by kernel_rfl) rfl rfl ?_
    refine mm_skip 21 (.call ⟨.value (.func 56), #[(.tmp 23)], #[3]⟩) (some 24) 18 true (b := false) (by kernel_rfl) (by kernel_rfl) (by kernel_rfl) rfl rfl ?_
    refine mm_skip 22 (.fieldAddr 34 (.tmp 1) 1) (some 25) 18 true (b := false) (by kernel_rfl) (by kernel_rfl) (by kernel_rfl) rfl rfl ?_
    refine mm_skip 23 (.load 3 (.tmp 25)) (some 26) 18 true (b := false) (by kernel_rfl) (by kernel_rfl) (by kernel_rfl) rfl rfl ?_
    refine mm_skip 24 (.call ⟨.value (.func 56), #[(.tmp 26)], #[3]⟩) (some 27) 18 true (b := false) (by kernel_rfl) (by kernel_rfl) (by kernel_rfl) rfl rfl ?_
    refine mm_skip 25 (.call ⟨.value (.func 55), #[(.tmp 24), (.tmp 27)], #[65, 65]⟩) (some 28) 18 true (b := false) (by kernel_rfl) (by kernel_rfl) (by kernel_rfl) rfl rfl ?_
    refine mm_skip 26 (.binOp .eql 65 (.tmp 28) (.const (.int .u64 (1))) 65) (some 29) 18 true (b := false) (by kernel_rfl) (by kernel_rfl) (by kernel_rfl) rfl rfl ?_
    refine mix_fin' hK_15631 ⟨[(2, B false)], [], 0⟩ (by kernel_rfl) (leB rfl) ?_
    refine w_ret ?_
    obtain rfl := ((Option.some.inj h).symm).symm
    exact ret_leaf (.inl rfl) ⟨[(2, B false)], [], 0⟩ (to_ren [] (leB rfl) (by kernel_rfl) (by kernel_rfl) (renE_of (by kernel_rfl) (by kernel_rfl)) trivial) [B false] (by kernel_rfl) (by kernel_rfl) (leB rfl) (by kernel_rfl) trivial
/-- estoppel/estoppelref42.Valid -/
def g_estoppelref42_Valid (a1 : Int) (a2 : List D.Debt) : Option (Bool) :=
  bindF (ρ := Bool) (
  if (decide (a1 < 1)) = true then
  some (.inl true)
  else
  if (decide (a1 > 12)) = true then
  some (.inl true)
  else
  some (.inl (decide ((a2.length : Int) > 400)))) (fun (e_16036 : Bool) =>
  if e_16036 = true then
  some false
  else
  bindF (ρ := Unit) (
  loopO (σ := Int) (fun s_16387 =>
  if (decide (s_16387 < (a2.length : Int))) = true then
  (getI a2 s_16387).bind fun x_16435 =>
  bindF (ρ := Bool) (
  if (decide (x_16435.From < 0)) = true then
  some (.inl true)
  else
  if (decide (x_16435.From ≥ a1)) = true then
  some (.inl true)
  else
  if (decide (x_16435.To < 0)) = true then
  some (.inl true)
  else
  if (decide (x_16435.To ≥ a1)) = true then
  some (.inl true)
  else
  if (x_16435.From == x_16435.To) = true then
  some (.inl true)
  else
  (g_estoppelref01_Valid x_16435.Amount).bind fun x_16453 =>
  if (!x_16453) = true then
  some (.inl true)
  else
  some (.inl (decide (x_16435.Amount.Num ≤ 0)))) (fun (e_16445 : Bool) =>
  if e_16445 = true then
  some (.inr (.inr false))
  else
  some (.inl (IntKind.i64.wrap (s_16387 + 1))))
  else
  some (.inr (.inl ()))) 0) (fun (e_16248 : Unit) =>
  some true))
set_option maxHeartbeats 4000000 in
theorem g_estoppelref42_Valid_ok {a1 : Int} {a2 : List D.Debt} {res : Bool} (h : g_estoppelref42_Valid a1 a2 = some res) : SpecK Try.prog [] 17 [I a1, sl 4 cs_Debt a2] [] 0 (B res) [] 0 := by
  refine ⟨spec_of_wp Try.func17 (by kernel_rfl) rfl Try.ntmps17 (by rw [Try.results17]) (leB rfl) ?_, by kernel_rfl, trivial, by kernel_rfl, trivial, by kernel_rfl⟩
  unfold g_estoppelref42_Valid at h
  refine w_reg ⟨[(0, I a1), (1, sl 4 cs_Debt a2)], [], 0⟩ (by kernel_rfl) (leB rfl) ?_
  refine w_assoc ?_
  refine w_cut h (fun (e_16036 : Bool) => ⟨[(0, I a1), (1, sl 4 cs_Debt a2), (17, B e_16036)], [], 0⟩) (fun o h h_16037 K hK_16038 => ?_) (fun e_16036 h => ?_)
  · refine w_reg0 ?_
    refine dd_run 0 3 rfl (by kernel_rfl) ?_
    refine ite_both h (fun h_16039 h => ?_) (fun h_16039 h => ?_)
    · refine dd_skip 3 5 2 false rfl (b := (decide (a1 < 1))) (by kernel_rfl) h_16039 (by kernel_rfl) ?_
      refine dd_one 5 (.pick (.tmp 9) (.const (.bool true)) (.tmp 11)) (some 12) (by kernel_rfl) (o_pure (B true) (ev_pickT h_16039 (by kernel_rfl) (by kernel_rfl)) rfl) ?_
      refine dd_run 6 7 rfl (by kernel_rfl) ?_
      refine dd_skip 7 10 6 false rfl (b := true) (by kernel_rfl) rfl (by kernel_rfl) ?_
      refine dd_run 10 11 rfl (by kernel_rfl) ?_
      refine dd_nil 11 rfl ?_
      exact hK_16038 _ _ (Option.some.inj h).symm (to_ren [] (leB rfl) (by kernel_rfl) (by kernel_rfl) (renE_of (by kernel_rfl) (by kernel_rfl)) trivial)
    · refine dd_runG 3 5 2 false rfl (b := (decide (a1 < 1))) (by kernel_rfl) h_16039 (by kernel_rfl) ?_
      refine dd_one 5 (.pick (.tmp 9) (.const (.bool true)) (.tmp 11)) (some 12) (by kernel_rfl) (o_pure (B (decide (a1 > 12))) (ev_pickF h_16039 (by kernel_rfl) (by kernel_rfl)) rfl) ?_
      refine dd_run 6 7 rfl (by kernel_rfl) ?_
      refine ite_both h (fun h_16040 h => ?_) (fun h_16040 h => ?_)
      · refine dd_skip 7 10 6 false rfl (b := (decide (a1 > 12))) (by kernel_rfl) h_16040 (by kernel_rfl) ?_
        refine dd_one 10 (.pick (.tmp 13) (.const (.bool true)) (.tmp 16)) (some 17) (by kernel_rfl) (o_pure (B true) (ev_pickT h_16040 (by kernel_rfl) (by kernel_rfl)) rfl) ?_
        refine dd_nil 11 rfl ?_
        exact hK_16038 _ _ (Option.some.inj h).symm (to_ren [] (leB rfl) (by kernel_rfl) (by kernel_rfl) (renE_of (by kernel_rfl) (by kernel_rfl)) trivial)
      · refine dd_runG 7 8 6 false rfl (b := (decide (a1 > 12))) (by kernel_rfl) h_16040 (by kernel_rfl) ?_
        refine dd_oneG 8 (.call ⟨.builtin .len, #[(.tmp 14)], #[22]⟩) (some 15) 6 false (b := (decide (a1 > 12))) (by kernel_rfl) (by kernel_rfl) h_16040 (o_pure (I (a2.length : Int)) (ev_len_sl (e := 38) (ty := 0) (k := 4) (c := cs_Debt) (by kernel_rfl) (by kernel_rfl)) rfl) ?_
        refine dd_runG 9 10 6 false rfl (b := (decide (a1 > 12))) (by kernel_rfl) h_16040 (by kernel_rfl) ?_
        refine dd_one 10 (.pick (.tmp 13) (.const (.bool true)) (.tmp 16)) (some 17) (by kernel_rfl) (o_pure (B (decide ((a2.length : Int) > 400))) (ev_pickF h_16040 (by kernel_rfl) (by kernel_rfl)) rfl) ?_
        refine dd_nil 11 rfl ?_
        exact hK_16038 _ _ (Option.some.inj h).symm (to_ren [] (leB rfl) (by kernel_rfl) (by kernel_rfl) (renE_of (by kernel_rfl) (by kernel_rfl)) trivial)
  · refine w_seq (fun K hK_16042 => ?_)
    refine w_ite h (by kernel_rfl) (fun h_16043 h => ?_) (fun h_16043 h => ?_)
    · refine w_reg ⟨[(4, B false)], [], 0⟩ (by kernel_rfl) (leB rfl) ?_
      refine w_ret ?_
      obtain rfl := ((Option.some.inj h).symm).symm
      exact ret_leaf (.inl rfl) ⟨[(4, B false)], [], 0⟩ (to_ren [] (leB rfl) (by kernel_rfl) (by kernel_rfl) (renE_of (by kernel_rfl) (by kernel_rfl)) trivial) [B false] (by kernel_rfl) (by kernel_rfl) (leB rfl) (by kernel_rfl) trivial
    · refine w_skip ?_
      refine hK_16042 _ ⟨[(0, I a1), (1, sl 4 cs_Debt a2)], [], 0⟩ (to_trim (by kernel_rfl) (leB rfl)) ?_
      refine w_assoc ?_
      refine w_reg ⟨[(0, I a1), (1, sl 4 cs_Debt a2), (5, I 0)], [], 0⟩ (by kernel_rfl) (leB rfl) ?_
      refine w_cut h (fun (e_16248 : Unit) => ⟨[], [], 0⟩) (fun o h h_16249 K hK_16250 => ?_) (fun e_16248 h => ?_)
      · refine w_block ?_
        refine w_loopO h (fun (s_16387 : Int) => ⟨[(0, I a1), (1, sl 4 cs_Debt a2), (5, I s_16387)], [], 0⟩) (to_ren [] (leB rfl) (by kernel_rfl) (by kernel_rfl) (renE_of (by kernel_rfl) (by kernel_rfl)) trivial) (fun s_16387 o h h_16388 K hK_16389 => ?_)
        · refine w_assoc ?_
          refine w_seq (fun K hK_16390 => w_reg0 ?_)
          refine dd_run 0 2 rfl (by kernel_rfl) ?_
          refine dd_one 2 (.call ⟨.builtin .len, #[(.tmp 19)], #[22]⟩) (some 20) (by kernel_rfl) (o_pure (I (a2.length : Int)) (ev_len_sl (e := 38) (ty := 0) (k := 4) (c := cs_Debt) (by kernel_rfl) (by kernel_rfl)) rfl) ?_
          refine ops_fin' hK_16390 ⟨[(0, I a1), (1, sl 4 cs_Debt a2), (5, I s_16387), (21, B (decide (s_16387 < (a2.length : Int))))], [], 0⟩ (by kernel_rfl) (leB rfl) ?_
          refine w_seq (fun K hK_16392 => ?_)
          refine w_ite h (by kernel_rfl) (fun h_16393 h => ?_) (fun h_16393 h => ?_)
          · refine w_skip ?_
            refine hK_16392 _ ⟨[(0, I a1), (1, sl 4 cs_Debt a2), (5, I s_16387)], [], 0⟩ (to_trim (by kernel_rfl) (leB rfl)) ?_
            refine w_seq (fun K hK_16425 => ?_)
            refine w_block ?_
            refine w_seq (fun K hK_16432 => w_reg0 ?_)
            refine dd_run 0 2 rfl (by kernel_rfl) ?_
            obtain ⟨x_16435, h_16436, h⟩ := bind_some' h
            refine dd_one 2 (.indexAddr 22 (.tmp 24) (.tmp 25)) (some 26) (by kernel_rfl) (o_pure (.ip (cs_Debt x_16435)) (ev_idx_sl (e := 38) (k := 4) (c := cs_Debt) (ik := .i64) h_16436 (by kernel_rfl) (by kernel_rfl) (by kernel_rfl) (by kernel_rfl)) rfl) ?_
            refine ops_fin' hK_16432 ⟨[(0, I a1), (1, sl 4 cs_Debt a2), (5, I s_16387), (6, .ptr 0 0)], [(0, ⟨38, 0, (cs_Debt x_16435)⟩)], 1⟩ (by kernel_rfl) (leB rfl) ?_
            refine w_cut h (fun (e_16445 : Bool) => ⟨[(0, I a1), (1, sl 4 cs_Debt a2), (5, I s_16387), (66, B e_16445)], [], 0⟩) (fun o h h_16446 K hK_16447 => ?_) (fun e_16445 h => ?_)
            · refine w_reg0 ?_
              refine dd_run 0 4 rfl (by kernel_rfl) ?_
              refine ite_both h (fun h_16448 h => ?_) (fun h_16448 h => ?_)
              · refine dd_skip 4 8 3 false rfl (b := (decide (x_16435.From < 0))) (by kernel_rfl) h_16448 (by kernel_rfl) ?_
                refine dd_one 8 (.pick (.tmp 31) (.const (.bool true)) (.tmp 35)) (some 36) (by kernel_rfl) (o_pure (B true) (ev_pickT h_16448 (by kernel_rfl) (by kernel_rfl)) rfl) ?_
                refine dd_run 9 10 rfl (by kernel_rfl) ?_
                refine dd_skip 10 13 9 false rfl (b := true) (by kernel_rfl) rfl (by kernel_rfl) ?_
                refine dd_run 13 15 rfl (by kernel_rfl) ?_
                refine dd_skip 15 19 14 false rfl (b := true) (by kernel_rfl) rfl (by kernel_rfl) ?_
                refine dd_run 19 21 rfl (by kernel_rfl) ?_
                refine dd_skip 21 26 20 false rfl (b := true) (by kernel_rfl) rfl (by kernel_rfl) ?_
                refine dd_run 26 28 rfl (by kernel_rfl) ?_
                refine dd_skip 28 32 27 false rfl (b := true) (by kernel_rfl) rfl (by kernel_rfl) ?_
                refine dd_run 32 34 rfl (by kernel_rfl) ?_
                refine dd_skip 34 38 33 false rfl (b := true) (by kernel_rfl) rfl (by kernel_rfl) ?_
                refine dd_run 38 39 rfl (by kernel_rfl) ?_
                refine dd_nil 39 rfl ?_
                exact hK_16447 _ _ (Option.some.inj h).symm (to_ren [] (leB rfl) (by kernel_rfl) (by kernel_rfl) (renE_of (by kernel_rfl) (by kernel_rfl)) trivial)
              · refine dd_runG 4 8 3 false rfl (b := (decide (x_16435.From < 0))) (by kernel_rfl) h_16448 (by kernel_rfl) ?_
                refine dd_one 8 (.pick (.tmp 31) (.const (.bool true)) (.tmp 35)) (some 36) (by kernel_rfl) (o_pure (B (decide (x_16435.From ≥ a1))) (ev_pickF h_16448 (by kernel_rfl) (by kernel_rfl)) rfl) ?_
                refine dd_run 9 10 rfl (by kernel_rfl) ?_
                refine ite_both h (fun h_16449 h => ?_) (fun h_16449 h => ?_)
                · refine dd_skip 10 13 9 false rfl (b := (decide (x_16435.From ≥ a1))) (by kernel_rfl) h_16449 (by kernel_rfl) ?_
                  refine dd_one 13 (.pick (.tmp 37) (.const (.bool true)) (.tmp 40)) (some 41) (by kernel_rfl) (o_pure (B true) (ev_pickT h_16449 (by kernel_rfl) (by kernel_rfl)) rfl) ?_
                  refine dd_run 14 15 rfl (by kernel_rfl) ?_
                  refine dd_skip 15 19 14 false rfl (b := true) (by kernel_rfl) rfl (by kernel_rfl) ?_
                  refine dd_run 19 21 rfl (by kernel_rfl) ?_
                  refine dd_skip 21 26 20 false rfl (b := true) (by kernel_rfl) rfl (by kernel_rfl) ?_
                  refine dd_run 26 28 rfl (by kernel_rfl) ?_
                  refine dd_skip 28 32 27 false rfl (b := true) (by kernel_rfl) rfl (by kernel_rfl) ?_
                  refine dd_run 32 34 rfl (by kernel_rfl) ?_
                  refine dd_skip 34 38 33 false rfl (b := true) (by kernel_rfl) rfl (by kernel_rfl) ?_
                  refine dd_run 38 39 rfl (by kernel_rfl) ?_
                  refine dd_nil 39 rfl ?_
                  exact hK_16447 _ _ (Option.some.inj h).symm (to_ren [] (leB rfl) (by kernel_rfl) (by kernel_rfl) (renE_of (by kernel_rfl) (by kernel_rfl)) trivial)
                · refine dd_runG 10 13 9 false rfl (b := (decide (x_16435.From ≥ a1))) (by kernel_rfl) h_16449 (by kernel_rfl) ?_
                  refine dd_one 13 (.pick (.tmp 37) (.const (.bool true)) (.tmp 40)) (some 41) (by kernel_rfl) (o_pure (B (decide (x_16435.To < 0))) (ev_pickF h_16449 (by kernel_rfl) (by kernel_rfl)) rfl) ?_
                  refine dd_run 14 15 rfl (by kernel_rfl) ?_
                  refine ite_both h (fun h_16450 h => ?_) (fun h_16450 h => ?_)
                  · refine dd_skip 15 19 14 false rfl (b := (decide (x_16435.To < 0))) (by kernel_rfl) h_16450 (by kernel_rfl) ?_
                    refine dd_one 19 (.pick (.tmp 42) (.const (.bool true)) (.tmp 46)) (some 47) (by kernel_rfl) (o_pure (B true) (ev_pickT h_16450 (by kernel_rfl) (by kernel_rfl)) rfl) ?_
                    refine dd_run 20 21 rfl (by kernel_rfl) ?_
                    refine dd_skip 21 26 20 false rfl (b := true) (by kernel_rfl) rfl (by kernel_rfl) ?_
                    refine dd_run 26 28 rfl (by kernel_rfl) ?_
                    refine dd_skip 28 32 27 false rfl (b := true) (by kernel_rfl) rfl (by kernel_rfl) ?_
                    refine dd_run 32 34 rfl (by kernel_rfl) ?_
                    refine dd_skip 34 38 33 false rfl (b := true) (by kernel_rfl) rfl (by kernel_rfl) ?_
                    refine dd_run 38 39 rfl (by kernel_rfl) ?_
                    refine dd_nil 39 rfl ?_
                    exact hK_16447 _ _ (Option.some.inj h).symm (to_ren [] (leB rfl) (by kernel_rfl) (by kernel_rfl) (renE_of (by kernel_rfl) (by kernel_rfl)) trivial)
                  · refine dd_runG 15 19 14 false rfl (b := (decide (x_16435.To < 0))) (by kernel_rfl) h_16450 (by kernel_rfl) ?_
                    refine dd_one 19 (.pick (.tmp 42) (.const (.bool true)) (.tmp 46)) (some 47) (by kernel_rfl) (o_pure (B (decide (x_16435.To ≥ a1))) (ev_pickF h_16450 (by kernel_rfl) (by kernel_rfl)) rfl) ?_
                    refine dd_run 20 21 rfl (by kernel_rfl) ?_
                    refine ite_both h (fun h_16451 h => ?_) (fun h_16451 h => ?_)
                    · refine dd_skip 21 26 20 false rfl (b := (decide (x_16435.To ≥ a1))) (by kernel_rfl) h_16451 (by kernel_rfl) ?_
                      refine dd_one 26 (.pick (.tmp 48) (.const (.bool true)) (.tmp 53)) (some 54) (by kernel_rfl) (o_pure (B true) (ev_pickT h_16451 (by kernel_rfl) (by kernel_rfl)) rfl) ?_
                      refine dd_run 27 28 rfl (by kernel_rfl) ?_
                      refine dd_skip 28 32 27 false rfl (b := true) (by kernel_rfl) rfl (by kernel_rfl) ?_
                      refine dd_run 32 34 rfl (by kernel_rfl) ?_
                      refine dd_skip 34 38 33 false rfl (b := true) (by kernel_rfl) rfl (by kernel_rfl) ?_
                      refine dd_run 38 39 rfl (by kernel_rfl) ?_
                      refine dd_nil 39 rfl ?_
                      exact hK_16447 _ _ (Option.some.inj h).symm (to_ren [] (leB rfl) (by kernel_rfl) (by kernel_rfl) (renE_of (by kernel_rfl) (by kernel_rfl)) trivial)
                    · refine dd_runG 21 26 20 false rfl (b := (decide (x_16435.To ≥ a1))) (by kernel_rfl) h_16451 (by kernel_rfl) ?_
                      refine dd_one 26 (.pick (.tmp 48) (.const (.bool true)) (.tmp 53)) (some 54) (by kernel_rfl) (o_pure (B (x_16435.From == x_16435.To)) (ev_pickF h_16451 (by kernel_rfl) (by kernel_rfl)) rfl) ?_
                      refine dd_run 27 28 rfl (by kernel_rfl) ?_
                      refine ite_both h (fun h_16452 h => ?_) (fun h_16452 h => ?_)
                      · refine dd_skip 28 32 27 false rfl (b := (x_16435.From == x_16435.To)) (by kernel_rfl) h_16452 (by kernel_rfl) ?_
                        refine dd_one 32 (.pick (.tmp 55) (.const (.bool true)) (.tmp 59)) (some 60) (by kernel_rfl) (o_pure (B true) (ev_pickT h_16452 (by kernel_rfl) (by kernel_rfl)) rfl) ?_
                        refine dd_run 33 34 rfl (by kernel_rfl) ?_
                        refine dd_skip 34 38 33 false rfl (b := true) (by kernel_rfl) rfl (by kernel_rfl) ?_
                        refine dd_run 38 39 rfl (by kernel_rfl) ?_
                        refine dd_nil 39 rfl ?_
                        exact hK_16447 _ _ (Option.some.inj h).symm (to_ren [] (leB rfl) (by kernel_rfl) (by kernel_rfl) (renE_of (by kernel_rfl) (by kernel_rfl)) trivial)
                      · refine dd_runG 28 30 27 false rfl (b := (x_16435.From == x_16435.To)) (by kernel_rfl) h_16452 (by kernel_rfl) ?_
                        obtain ⟨x_16453, h_16454, h⟩ := bind_some' h
                        refine dd_oneG 30 (.call ⟨.value (.func 44), #[(.tmp 57)], #[34]⟩) (some 58) 27 false (b := (x_16435.From == x_16435.To)) (by kernel_rfl) (by kernel_rfl) h_16452 (o_callP (g_estoppelref01_Valid_ok h_16454) (by kernel_rfl) rfl) ?_
                        refine dd_runG 31 32 27 false rfl (b := (x_16435.From == x_16435.To)) (by kernel_rfl) h_16452 (by kernel_rfl) ?_
                        refine dd_one 32 (.pick (.tmp 55) (.const (.bool true)) (.tmp 59)) (some 60) (by kernel_rfl) (o_pure (B (!x_16453)) (ev_pickF h_16452 (by kernel_rfl) (by kernel_rfl)) rfl) ?_
                        refine dd_run 33 34 rfl (by kernel_rfl) ?_
                        refine ite_both h (fun h_16455 h => ?_) (fun h_16455 h => ?_)
                        · refine dd_skip 34 38 33 false rfl (b := (!x_16453)) (by kernel_rfl) h_16455 (by kernel_rfl) ?_
                          refine dd_one 38 (.pick (.tmp 61) (.const (.bool true)) (.tmp 65)) (some 66) (by kernel_rfl) (o_pure (B true) (ev_pickT h_16455 (by kernel_rfl) (by kernel_rfl)) rfl) ?_
                          refine dd_nil 39 rfl ?_
                          exact hK_16447 _ _ (Option.some.inj h).symm (to_ren [] (leB rfl) (by kernel_rfl) (by kernel_rfl) (renE_of (by kernel_rfl) (by kernel_rfl)) trivial)
                        · refine dd_runG 34 38 33 false rfl (b := (!x_16453)) (by kernel_rfl) h_16455 (by kernel_rfl) ?_
                          refine dd_one 38 (.pick (.tmp 61) (.const (.bool true)) (.tmp 65)) (some 66) (by kernel_rfl) (o_pure (B (decide (x_16435.Amount.Num ≤ 0))) (ev_pickF h_16455 (by kernel_rfl) (by kernel_rfl)) rfl) ?_
                          refine dd_nil 39 rfl ?_
                          exact hK_16447 _ _ (Option.some.inj h).symm (to_ren [] (leB rfl) (by kernel_rfl) (by kernel_rfl) (renE_of (by kernel_rfl) (by kernel_rfl)) trivial)
            · refine w_ite h (by kernel_rfl) (fun h_16456 h => ?_) (fun h_16456 h => ?_)
              · refine w_reg ⟨[(4, B false)], [], 0⟩ (by kernel_rfl) (leB rfl) ?_
                refine w_ret ?_
                obtain rfl := ((h_16249 _ (h_16388 _ (Option.some.inj h).symm).symm).symm).symm
                exact ret_leaf (.inl rfl) ⟨[(4, B false)], [], 0⟩ (to_ren [] (leB rfl) (by kernel_rfl) (by kernel_rfl) (renE_of (by kernel_rfl) (by kernel_rfl)) trivial) [B false] (by kernel_rfl) (by kernel_rfl) (leB rfl) (by kernel_rfl) trivial
              · refine w_skip ?_
                refine hK_16425 _ ⟨[(0, I a1), (1, sl 4 cs_Debt a2), (5, I s_16387)], [], 0⟩ (to_trim (by kernel_rfl) (leB rfl)) ?_
                refine w_reg0 ?_
                refine dd_run 0 3 rfl (by kernel_rfl) ?_
                refine dd_nil 3 rfl ?_
                exact hK_16389 _ _ (Option.some.inj h).symm (to_ren [] (leB rfl) (by kernel_rfl) (by kernel_rfl) (renE_of (by kernel_rfl) (by kernel_rfl)) trivial)
          · refine w_exit ?_
            exact hK_16250 _ _ (h_16388 _ (Option.some.inj h).symm).symm (to_ren [] (leB rfl) (by kernel_rfl) (by kernel_rfl) (renE_of (by kernel_rfl) (by kernel_rfl)) trivial)
      · refine w_reg ⟨[(4, B true)], [], 0⟩ (by kernel_rfl) (leB rfl) ?_
        refine w_ret ?_
        obtain rfl := ((Option.some.inj h).symm).symm
        exact ret_leaf (.inl rfl) ⟨[(4, B true)], [], 0⟩ (to_ren [] (leB rfl) (by kernel_rfl) (by kernel_rfl) (renE_of (by kernel_rfl) (by kernel_rfl)) trivial) [B true] (by kernel_rfl) (by kernel_rfl) (leB rfl) (by kernel_rfl) trivial
/-- estoppel/estoppelref42.Zero -/
def g_estoppelref42_Zero : Option (D.Ratio) :=
  some (D.Ratio.mk 0 1)
set_option maxHeartbeats 4000000 in
theorem g_estoppelref42_Zero_ok {res : D.Ratio} (h : g_estoppelref42_Zero = some res) : SpecK Try.prog [] 48 [] [] 0 (.agg (cs_Ratio res)) [] 0 := by
  refine ⟨spec_of_wp Try.func48 (by kernel_rfl) rfl Try.ntmps48 (by rw [Try.results48]) (leB rfl) ?_, by kernel_rfl, trivial, by kernel_rfl, trivial, by kernel_rfl⟩
  unfold g_estoppelref42_Zero at h
  refine w_reg ⟨[(0, .ptr 0 0)], [(0, ⟨34, 0, [I 0, I 0]⟩)], 1⟩ (by kernel_rfl) (leB rfl) ?_
  refine w_reg ⟨[(0, .ptr 0 0)], [(0, ⟨34, 0, [I 0, I 1]⟩)], 1⟩ (by kernel_rfl) (leB rfl) ?_
  refine w_ret ?_
  obtain rfl := ((Option.some.inj h).symm).symm
  exact ret_leaf (.inl rfl) ⟨[(0, .ptr 0 0)], [(0, ⟨34, 0, (cs_Ratio (D.Ratio.mk 0 1))⟩)], 1⟩ (to_ren [] (leB rfl) (by kernel_rfl) (by kernel_rfl) (renE_of (by kernel_rfl) (by kernel_rfl)) ⟨reRn (by kernel_rfl) (leB rfl) (by kernel_rfl), trivial⟩) [.agg (cs_Ratio (D.Ratio.mk 0 1))] (by kernel_rfl) (by kernel_rfl) (leB rfl) (by kernel_rfl) trivial
end Go.Proofs.Ytgggekjhfdkgkaa.Ab
