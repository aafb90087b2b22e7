/- Functions of the program as plain functions (printed by wip/dec.py). -/
import Derived.Test.YtgggekjhfdkgkaaDx1
namespace Go.Proofs.Ytgggekjhfdkgkaa.Ab
open Go Go.RowKit Go.Shelf
/-- estoppel/ratio.Cmp -/
def g_ratio_Cmp (a1 : D.Ratio) (a2 : D.Ratio) : Option (Int) :=
  bindF (ρ := Bool) (
  (g_ratio_Valid a1).bind fun x_1224 =>
  if (!x_1224) = true then
  some (.inl true)
  else
  (g_ratio_Valid a2).bind fun x_1227 =>
  some (.inl (!x_1227))) (fun (e_1221 : Bool) =>
  if e_1221 = true then
  some 0
  else
  if (decide ((IntKind.i64.wrap ((IntKind.i64.wrap (a1.Num * a2.Den)) - (IntKind.i64.wrap (a2.Num * a1.Den)))) < 0)) = true then
  some (-1)
  else
  if (decide ((IntKind.i64.wrap ((IntKind.i64.wrap (a1.Num * a2.Den)) - (IntKind.i64.wrap (a2.Num * a1.Den)))) > 0)) = true then
  some 1
  else
  some 0)
set_option maxHeartbeats 4000000 in
theorem g_ratio_Cmp_ok {a1 : D.Ratio} {a2 : D.Ratio} {res : Int} (h : g_ratio_Cmp a1 a2 = some res) : SpecK Try.prog [] 24 [.agg (cs_Ratio a1), .agg (cs_Ratio a2)] [] 0 (I res) [] 0 := by
  refine ⟨spec_of_wp Try.func24 (by kernel_rfl) rfl Try.ntmps24 (by rw [Try.results24]) (leB rfl) ?_, by kernel_rfl, trivial, by kernel_rfl, trivial, by kernel_rfl⟩
  unfold g_ratio_Cmp at h
  refine w_reg ⟨[(2, .ip (cs_Ratio a1)), (3, .ip (cs_Ratio a2))], [], 0⟩ (by kernel_rfl) (leB rfl) ?_
  refine w_assoc ?_
  refine w_cut h (fun (e_1221 : Bool) => ⟨[(2, .ip (cs_Ratio a1)), (3, .ip (cs_Ratio a2)), (13, B e_1221)], [], 0⟩) (fun o h h_1222 K hK_1223 => ?_) (fun e_1221 h => ?_)
  · refine w_reg0 ?_
    refine dd_run 0 1 rfl (by kernel_rfl) ?_
    obtain ⟨x_1224, h_1225, h⟩ := bind_some' h
    refine dd_one 1 (.call ⟨.value (.func 43), #[(.tmp 6)], #[34]⟩) (some 7) (by kernel_rfl) (o_callP (g_ratio_Valid_ok h_1225) (by kernel_rfl) rfl) ?_
    refine dd_run 2 4 rfl (by kernel_rfl) ?_
    refine ite_both h (fun h_1226 h => ?_) (fun h_1226 h => ?_)
    · refine dd_skip 4 7 3 false rfl (b := (!x_1224)) (by kernel_rfl) h_1226 (by kernel_rfl) ?_
      refine dd_one 7 (.pick (.tmp 9) (.const (.bool true)) (.tmp 12)) (some 13) (by kernel_rfl) (o_pure (B true) (ev_pickT h_1226 (by kernel_rfl) (by kernel_rfl)) rfl) ?_
      refine dd_nil 8 rfl ?_
      exact hK_1223 _ _ (Option.some.inj h).symm (to_ren [] (leB rfl) (by kernel_rfl) (by kernel_rfl) (renE_of (by kernel_rfl) (by kernel_rfl)) trivial)
    · refine dd_runG 4 5 3 false rfl (b := (!x_1224)) (by kernel_rfl) h_1226 (by kernel_rfl) ?_
      obtain ⟨x_1227, h_1228, h⟩ := bind_some' h
      refine dd_oneG 5 (.call ⟨.value (.func 43), #[(.tmp 10)], #[34]⟩) (some 11) 3 false (b := (!x_1224)) (by kernel_rfl) (by kernel_rfl) h_1226 (o_callP (g_ratio_Valid_ok h_1228) (by kernel_rfl) rfl) ?_
      refine dd_runG 6 7 3 false rfl (b := (!x_1224)) (by kernel_rfl) h_1226 (by kernel_rfl) ?_
      refine dd_one 7 (.pick (.tmp 9) (.const (.bool true)) (.tmp 12)) (some 13) (by kernel_rfl) (o_pure (B (!x_1227)) (ev_pickF h_1226 (by kernel_rfl) (by kernel_rfl)) rfl) ?_
      refine dd_nil 8 rfl ?_
      exact hK_1223 _ _ (Option.some.inj h).symm (to_ren [] (leB rfl) (by kernel_rfl) (by kernel_rfl) (renE_of (by kernel_rfl) (by kernel_rfl)) trivial)
  · refine w_seq (fun K hK_1230 => ?_)
    refine w_ite h (by kernel_rfl) (fun h_1231 h => ?_) (fun h_1231 h => ?_)
    · refine w_reg ⟨[(4, I 0)], [], 0⟩ (by kernel_rfl) (leB rfl) ?_
      refine w_ret ?_
      obtain rfl := ((Option.some.inj h).symm).symm
      exact ret_leaf (.inl rfl) ⟨[(4, I 0)], [], 0⟩ (to_ren [] (leB rfl) (by kernel_rfl) (by kernel_rfl) (renE_of (by kernel_rfl) (by kernel_rfl)) trivial) [I 0] (by kernel_rfl) (by kernel_rfl) (leB rfl) (by kernel_rfl) trivial
    · refine w_skip ?_
      refine hK_1230 _ ⟨[(2, .ip (cs_Ratio a1)), (3, .ip (cs_Ratio a2))], [], 0⟩ (to_trim (by kernel_rfl) (leB rfl)) ?_
      refine w_assoc ?_
      refine w_reg ⟨[(5, I (IntKind.i64.wrap ((IntKind.i64.wrap (a1.Num * a2.Den)) - (IntKind.i64.wrap (a2.Num * a1.Den)))))], [], 0⟩ (by kernel_rfl) (leB rfl) ?_
      refine w_seq (fun K hK_1234 => ?_)
      refine w_block ?_
      refine w_reg ⟨[(5, I (IntKind.i64.wrap ((IntKind.i64.wrap (a1.Num * a2.Den)) - (IntKind.i64.wrap (a2.Num * a1.Den))))), (25, B (decide ((IntKind.i64.wrap ((IntKind.i64.wrap (a1.Num * a2.Den)) - (IntKind.i64.wrap (a2.Num * a1.Den)))) < 0)))], [], 0⟩ (by kernel_rfl) (leB rfl) ?_
      refine w_ite h (by kernel_rfl) (fun h_1235 h => ?_) (fun h_1235 h => ?_)
      · refine w_reg ⟨[(4, I (-1))], [], 0⟩ (by kernel_rfl) (leB rfl) ?_
        refine w_ret ?_
        obtain rfl := ((Option.some.inj h).symm).symm
        exact ret_leaf (.inl rfl) ⟨[(4, I (-1))], [], 0⟩ (to_ren [] (leB rfl) (by kernel_rfl) (by kernel_rfl) (renE_of (by kernel_rfl) (by kernel_rfl)) trivial) [I (-1)] (by kernel_rfl) (by kernel_rfl) (leB rfl) (by kernel_rfl) trivial
      · refine w_reg ⟨[(28, B (decide ((IntKind.i64.wrap ((IntKind.i64.wrap (a1.Num * a2.Den)) - (IntKind.i64.wrap (a2.Num * a1.Den)))) > 0)))], [], 0⟩ (by kernel_rfl) (leB rfl) ?_
        refine w_ite h (by kernel_rfl) (fun h_1236 h => ?_) (fun h_1236 h => ?_)
        · refine w_reg ⟨[(4, I 1)], [], 0⟩ (by kernel_rfl) (leB rfl) ?_
          refine w_ret ?_
          obtain rfl := ((Option.some.inj h).symm).symm
          exact ret_leaf (.inl rfl) ⟨[(4, I 1)], [], 0⟩ (to_ren [] (leB rfl) (by kernel_rfl) (by kernel_rfl) (renE_of (by kernel_rfl) (by kernel_rfl)) trivial) [I 1] (by kernel_rfl) (by kernel_rfl) (leB rfl) (by kernel_rfl) trivial
        · refine w_skip ?_
          refine hK_1234 _ ⟨[], [], 0⟩ (to_trim (by kernel_rfl) (leB rfl)) ?_
          refine w_reg ⟨[(4, I 0)], [], 0⟩ (by kernel_rfl) (leB rfl) ?_
          refine w_ret ?_
          obtain rfl := ((Option.some.inj h).symm).symm
          exact ret_leaf (.inl rfl) ⟨[(4, I 0)], [], 0⟩ (to_ren [] (leB rfl) (by kernel_rfl) (by kernel_rfl) (renE_of (by kernel_rfl) (by kernel_rfl)) trivial) [I 0] (by kernel_rfl) (by kernel_rfl) (leB rfl) (by kernel_rfl) trivial
/-- math/bits.Mul64 -/
def g_bits_Mul64 (a1 : Int) (a2 : Int) : Option (Int × Int) :=
  some ((IntKind.u64.wrap ((IntKind.u64.wrap ((IntKind.u64.wrap ((shrK .u64 a1 32) * (shrK .u64 a2 32))) + (shrK .u64 (IntKind.u64.wrap ((IntKind.u64.wrap ((shrK .u64 a1 32) * (andK .u64 a2 4294967295))) + (shrK .u64 (IntKind.u64.wrap ((andK .u64 a1 4294967295) * (andK .u64 a2 4294967295))) 32))) 32))) + (shrK .u64 (IntKind.u64.wrap ((andK .u64 (IntKind.u64.wrap ((IntKind.u64.wrap ((shrK .u64 a1 32) * (andK .u64 a2 4294967295))) + (shrK .u64 (IntKind.u64.wrap ((andK .u64 a1 4294967295) * (andK .u64 a2 4294967295))) 32))) 4294967295) + (IntKind.u64.wrap ((andK .u64 a1 4294967295) * (shrK .u64 a2 32))))) 32))), (IntKind.u64.wrap (a1 * a2)))
set_option maxHeartbeats 4000000 in
theorem g_bits_Mul64_ok {a1 : Int} {a2 : Int} {res : Int × Int} (h : g_bits_Mul64 a1 a2 = some res) : SpecK Try.prog [] 58 [.s (.int .u64 a1), .s (.int .u64 a2)] [] 0 (.tup [.s (.int .u64 res.1), .s (.int .u64 res.2)]) [] 0 := by
  refine ⟨spec_of_wp Try.func58 (by kernel_rfl) rfl Try.ntmps58 (by rw [Try.results58]) (leB rfl) ?_, by kernel_rfl, trivial, by kernel_rfl, trivial, by kernel_rfl⟩
  unfold g_bits_Mul64 at h
  refine w_reg ⟨[(0, .s (.int .u64 a1)), (1, .s (.int .u64 a2))], [], 0⟩ (by kernel_rfl) (leB rfl) ?_
  refine w_reg ⟨[(0, .s (.int .u64 a1)), (1, .s (.int .u64 a2)), (6, .s (.int .u64 (andK .u64 a1 4294967295)))], [], 0⟩ (by kernel_rfl) (leB rfl) ?_
  refine w_reg ⟨[(0, .s (.int .u64 a1)), (1, .s (.int .u64 a2)), (6, .s (.int .u64 (andK .u64 a1 4294967295))), (7, .s (.int .u64 (shrK .u64 a1 32)))], [], 0⟩ (by kernel_rfl) (leB rfl) ?_
  refine w_reg ⟨[(0, .s (.int .u64 a1)), (1, .s (.int .u64 a2)), (6, .s (.int .u64 (andK .u64 a1 4294967295))), (7, .s (.int .u64 (shrK .u64 a1 32))), (8, .s (.int .u64 (andK .u64 a2 4294967295)))], [], 0⟩ (by kernel_rfl) (leB rfl) ?_
  refine w_reg ⟨[(0, .s (.int .u64 a1)), (1, .s (.int .u64 a2)), (6, .s (.int .u64 (andK .u64 a1 4294967295))), (7, .s (.int .u64 (shrK .u64 a1 32))), (8, .s (.int .u64 (andK .u64 a2 4294967295))), (9, .s (.int .u64 (shrK .u64 a2 32)))], [], 0⟩ (by kernel_rfl) (leB rfl) ?_
  refine w_reg ⟨[(0, .s (.int .u64 a1)), (1, .s (.int .u64 a2)), (6, .s (.int .u64 (andK .u64 a1 4294967295))), (7, .s (.int .u64 (shrK .u64 a1 32))), (8, .s (.int .u64 (andK .u64 a2 4294967295))), (9, .s (.int .u64 (shrK .u64 a2 32))), (10, .s (.int .u64 (IntKind.u64.wrap ((andK .u64 a1 4294967295) * (andK .u64 a2 4294967295)))))], [], 0⟩ (by kernel_rfl) (leB rfl) ?_
  refine w_reg ⟨[(0, .s (.int .u64 a1)), (1, .s (.int .u64 a2)), (6, .s (.int .u64 (andK .u64 a1 4294967295))), (7, .s (.int .u64 (shrK .u64 a1 32))), (9, .s (.int .u64 (shrK .u64 a2 32))), (11, .s (.int .u64 (IntKind.u64.wrap ((IntKind.u64.wrap ((shrK .u64 a1 32) * (andK .u64 a2 4294967295))) + (shrK .u64 (IntKind.u64.wrap ((andK .u64 a1 4294967295) * (andK .u64 a2 4294967295))) 32)))))], [], 0⟩ (by kernel_rfl) (leB rfl) ?_
  refine w_reg ⟨[(0, .s (.int .u64 a1)), (1, .s (.int .u64 a2)), (6, .s (.int .u64 (andK .u64 a1 4294967295))), (7, .s (.int .u64 (shrK .u64 a1 32))), (9, .s (.int .u64 (shrK .u64 a2 32))), (11, .s (.int .u64 (IntKind.u64.wrap ((IntKind.u64.wrap ((shrK .u64 a1 32) * (andK .u64 a2 4294967295))) + (shrK .u64 (IntKind.u64.wrap ((andK .u64 a1 4294967295) * (andK .u64 a2 4294967295))) 32))))), (12, .s (.int .u64 (andK .u64 (IntKind.u64.wrap ((IntKind.u64.wrap ((shrK .u64 a1 32) * (andK .u64 a2 4294967295))) + (shrK .u64 (IntKind.u64.wrap ((andK .u64 a1 4294967295) * (andK .u64 a2 4294967295))) 32))) 4294967295)))], [], 0⟩ (by kernel_rfl) (leB rfl) ?_
  refine w_reg ⟨[(0, .s (.int .u64 a1)), (1, .s (.int .u64 a2)), (6, .s (.int .u64 (andK .u64 a1 4294967295))), (7, .s (.int .u64 (shrK .u64 a1 32))), (9, .s (.int .u64 (shrK .u64 a2 32))), (12, .s (.int .u64 (andK .u64 (IntKind.u64.wrap ((IntKind.u64.wrap ((shrK .u64 a1 32) * (andK .u64 a2 4294967295))) + (shrK .u64 (IntKind.u64.wrap ((andK .u64 a1 4294967295) * (andK .u64 a2 4294967295))) 32))) 4294967295))), (13, .s (.int .u64 (shrK .u64 (IntKind.u64.wrap ((IntKind.u64.wrap ((shrK .u64 a1 32) * (andK .u64 a2 4294967295))) + (shrK .u64 (IntKind.u64.wrap ((andK .u64 a1 4294967295) * (andK .u64 a2 4294967295))) 32))) 32)))], [], 0⟩ (by kernel_rfl) (leB rfl) ?_
  refine w_reg ⟨[(0, .s (.int .u64 a1)), (1, .s (.int .u64 a2)), (7, .s (.int .u64 (shrK .u64 a1 32))), (9, .s (.int .u64 (shrK .u64 a2 32))), (12, .s (.int .u64 (IntKind.u64.wrap ((andK .u64 (IntKind.u64.wrap ((IntKind.u64.wrap ((shrK .u64 a1 32) * (andK .u64 a2 4294967295))) + (shrK .u64 (IntKind.u64.wrap ((andK .u64 a1 4294967295) * (andK .u64 a2 4294967295))) 32))) 4294967295) + (IntKind.u64.wrap ((andK .u64 a1 4294967295) * (shrK .u64 a2 32))))))), (13, .s (.int .u64 (shrK .u64 (IntKind.u64.wrap ((IntKind.u64.wrap ((shrK .u64 a1 32) * (andK .u64 a2 4294967295))) + (shrK .u64 (IntKind.u64.wrap ((andK .u64 a1 4294967295) * (andK .u64 a2 4294967295))) 32))) 32)))], [], 0⟩ (by kernel_rfl) (leB rfl) ?_
  refine w_reg ⟨[(0, .s (.int .u64 a1)), (1, .s (.int .u64 a2)), (4, .s (.int .u64 (IntKind.u64.wrap ((IntKind.u64.wrap ((IntKind.u64.wrap ((shrK .u64 a1 32) * (shrK .u64 a2 32))) + (shrK .u64 (IntKind.u64.wrap ((IntKind.u64.wrap ((shrK .u64 a1 32) * (andK .u64 a2 4294967295))) + (shrK .u64 (IntKind.u64.wrap ((andK .u64 a1 4294967295) * (andK .u64 a2 4294967295))) 32))) 32))) + (shrK .u64 (IntKind.u64.wrap ((andK .u64 (IntKind.u64.wrap ((IntKind.u64.wrap ((shrK .u64 a1 32) * (andK .u64 a2 4294967295))) + (shrK .u64 (IntKind.u64.wrap ((andK .u64 a1 4294967295) * (andK .u64 a2 4294967295))) 32))) 4294967295) + (IntKind.u64.wrap ((andK .u64 a1 4294967295) * (shrK .u64 a2 32))))) 32)))))], [], 0⟩ (by kernel_rfl) (leB rfl) ?_
  refine w_reg ⟨[(4, .s (.int .u64 (IntKind.u64.wrap ((IntKind.u64.wrap ((IntKind.u64.wrap ((shrK .u64 a1 32) * (shrK .u64 a2 32))) + (shrK .u64 (IntKind.u64.wrap ((IntKind.u64.wrap ((shrK .u64 a1 32) * (andK .u64 a2 4294967295))) + (shrK .u64 (IntKind.u64.wrap ((andK .u64 a1 4294967295) * (andK .u64 a2 4294967295))) 32))) 32))) + (shrK .u64 (IntKind.u64.wrap ((andK .u64 (IntKind.u64.wrap ((IntKind.u64.wrap ((shrK .u64 a1 32) * (andK .u64 a2 4294967295))) + (shrK .u64 (IntKind.u64.wrap ((andK .u64 a1 4294967295) * (andK .u64 a2 4294967295))) 32))) 4294967295) + (IntKind.u64.wrap ((andK .u64 a1 4294967295) * (shrK .u64 a2 32))))) 32))))), (5, .s (.int .u64 (IntKind.u64.wrap (a1 * a2))))], [], 0⟩ (by kernel_rfl) (leB rfl) ?_
  refine w_ret ?_
  obtain rfl := ((Option.some.inj h).symm).symm
  exact ret_leaf (.inl rfl) ⟨[(4, .s (.int .u64 (IntKind.u64.wrap ((IntKind.u64.wrap ((IntKind.u64.wrap ((shrK .u64 a1 32) * (shrK .u64 a2 32))) + (shrK .u64 (IntKind.u64.wrap ((IntKind.u64.wrap ((shrK .u64 a1 32) * (andK .u64 a2 4294967295))) + (shrK .u64 (IntKind.u64.wrap ((andK .u64 a1 4294967295) * (andK .u64 a2 4294967295))) 32))) 32))) + (shrK .u64 (IntKind.u64.wrap ((andK .u64 (IntKind.u64.wrap ((IntKind.u64.wrap ((shrK .u64 a1 32) * (andK .u64 a2 4294967295))) + (shrK .u64 (IntKind.u64.wrap ((andK .u64 a1 4294967295) * (andK .u64 a2 4294967295))) 32))) 4294967295) + (IntKind.u64.wrap ((andK .u64 a1 4294967295) * (shrK .u64 a2 32))))) 32))))), (5, .s (.int .u64 (IntKind.u64.wrap (a1 * a2))))], [], 0⟩ (to_ren [] (leB rfl) (by kernel_rfl) (by kernel_rfl) (renE_of (by kernel_rfl) (by kernel_rfl)) trivial) [.s (.int .u64 (IntKind.u64.wrap ((IntKind.u64.wrap ((IntKind.u64.wrap ((shrK .u64 a1 32) * (shrK .u64 a2 32))) + (shrK .u64 (IntKind.u64.wrap ((IntKind.u64.wrap ((shrK .u64 a1 32) * (andK .u64 a2 4294967295))) + (shrK .u64 (IntKind.u64.wrap ((andK .u64 a1 4294967295) * (andK .u64 a2 4294967295))) 32))) 32))) + (shrK .u64 (IntKind.u64.wrap ((andK .u64 (IntKind.u64.wrap ((IntKind.u64.wrap ((shrK .u64 a1 32) * (andK .u64 a2 4294967295))) + (shrK .u64 (IntKind.u64.wrap ((andK .u64 a1 4294967295) * (andK .u64 a2 4294967295))) 32))) 4294967295) + (IntKind.u64.wrap ((andK .u64 a1 4294967295) * (shrK .u64 a2 32))))) 32)))), .s (.int .u64 (IntKind.u64.wrap (a1 * a2)))] (by kernel_rfl) (by kernel_rfl) (leB rfl) (by kernel_rfl) trivial
/-- estoppel/ratio.product -/
def g_ratio_product (a1 : D.Ratio) (a2 : Int) (a3 : Int) : Option (D.Ratio × Int) :=
  (g_ratio_magnitude a1.Num).bind fun x_1350 =>
  (g_ratio_magnitude a1.Den).bind fun x_1352 =>
  (g_ratio_magnitude a2).bind fun x_1354 =>
  (g_ratio_magnitude a3).bind fun x_1356 =>
  (g_ratio_common [x_1350, x_1356]).bind fun x_1363 =>
  (g_ratio_common [x_1354, x_1352]).bind fun x_1365 =>
  (quoO .u64 x_1350 x_1363).bind fun x_1382 =>
  (quoO .u64 x_1354 x_1365).bind fun x_1386 =>
  (g_bits_Mul64 x_1382 x_1386).bind fun x_1388 =>
  (quoO .u64 x_1352 x_1365).bind fun x_1405 =>
  (quoO .u64 x_1356 x_1363).bind fun x_1409 =>
  (g_bits_Mul64 x_1405 x_1409).bind fun x_1411 =>
  bindF (ρ := Bool) (
  if (x_1388.1 != 0) = true then
  some (.inl true)
  else
  some (.inl (x_1411.1 != 0))) (fun (e_1414 : Bool) =>
  if e_1414 = true then
  some ((D.Ratio.mk 0 0), 2)
  else
  (g_ratio_reduced (!((decide (a1.Num < 0)) == (!((decide (a2 < 0)) == (decide (a3 < 0)))))) x_1388.2 x_1411.2).bind fun x_1424 =>
  some (x_1424.1, x_1424.2))
set_option maxHeartbeats 4000000 in
theorem g_ratio_product_ok {a1 : D.Ratio} {a2 : Int} {a3 : Int} {res : D.Ratio × Int} (h : g_ratio_product a1 a2 a3 = some res) : SpecK Try.prog [] 50 [.agg (cs_Ratio a1), I a2, I a3] [] 0 (.tup [.agg (cs_Ratio res.1), I res.2]) [] 0 := by
  refine ⟨spec_of_wp Try.func50 (by kernel_rfl) rfl Try.ntmps50 (by rw [Try.results50]) (leB rfl) ?_, by kernel_rfl, trivial, by kernel_rfl, trivial, by kernel_rfl⟩
  unfold g_ratio_product at h
  refine w_reg ⟨[(1, I a2), (2, I a3), (3, .ip (cs_Ratio a1)), (6, .ptr 0 0)], [(0, ⟨34, 0, [I 0, I 0]⟩)], 1⟩ (by kernel_rfl) (leB rfl) ?_
  refine w_seq (fun K hK_1349 => w_mix0 (by kernel_rfl) (by kernel_rfl) ?_)
  refine mm_run 0 2 rfl (by kernel_rfl) ?_
  obtain ⟨x_1350, h_1351, h⟩ := bind_some' h
  refine mm_one 2 (.call ⟨.value (.func 53), #[(.tmp 19)], #[3]⟩) (some 20) (by kernel_rfl) (by kernel_rfl) (oH_callP (g_ratio_magnitude_ok h_1351) (by kernel_rfl) rfl) ?_
  refine mm_run 3 5 rfl (by kernel_rfl) ?_
  obtain ⟨x_1352, h_1353, h⟩ := bind_some' h
  refine mm_one 5 (.call ⟨.value (.func 53), #[(.tmp 22)], #[3]⟩) (some 23) (by kernel_rfl) (by kernel_rfl) (oH_callP (g_ratio_magnitude_ok h_1353) (by kernel_rfl) rfl) ?_
  refine mm_run 6 7 rfl (by kernel_rfl) ?_
  obtain ⟨x_1354, h_1355, h⟩ := bind_some' h
  refine mm_one 7 (.call ⟨.value (.func 53), #[(.tmp 24)], #[3]⟩) (some 25) (by kernel_rfl) (by kernel_rfl) (oH_callP (g_ratio_magnitude_ok h_1355) (by kernel_rfl) rfl) ?_
  refine mm_run 8 9 rfl (by kernel_rfl) ?_
  obtain ⟨x_1356, h_1357, h⟩ := bind_some' h
  refine mm_one 9 (.call ⟨.value (.func 53), #[(.tmp 26)], #[3]⟩) (some 27) (by kernel_rfl) (by kernel_rfl) (oH_callP (g_ratio_magnitude_ok h_1357) (by kernel_rfl) rfl) ?_
  refine mix_fin' hK_1349 ⟨[(1, I a2), (2, I a3), (3, .ip (cs_Ratio a1)), (6, .ptr 0 0), (8, .s (.int .u64 x_1350)), (9, .s (.int .u64 x_1352)), (10, .s (.int .u64 x_1354)), (11, .s (.int .u64 x_1356))], [(0, ⟨34, 0, [I 0, I 0]⟩)], 1⟩ (by kernel_rfl) (leB rfl) ?_
  refine w_seq (fun K hK_1362 => w_reg0 ?_)
  refine dd_run 0 3 rfl (by kernel_rfl) ?_
  obtain ⟨x_1363, h_1364, h⟩ := bind_some' h
  refine dd_one 3 (.call ⟨.value (.func 54), #[(.tmp 30)], #[72]⟩) (some 31) (by kernel_rfl) (o_callP (g_ratio_common_ok h_1364) (by kernel_rfl) rfl) ?_
  refine dd_run 4 7 rfl (by kernel_rfl) ?_
  obtain ⟨x_1365, h_1366, h⟩ := bind_some' h
  refine dd_one 7 (.call ⟨.value (.func 54), #[(.tmp 34)], #[72]⟩) (some 35) (by kernel_rfl) (o_callP (g_ratio_common_ok h_1366) (by kernel_rfl) rfl) ?_
  refine ops_fin' hK_1362 ⟨[(1, I a2), (2, I a3), (3, .ip (cs_Ratio a1)), (6, .ptr 0 0), (8, .s (.int .u64 x_1350)), (9, .s (.int .u64 x_1352)), (10, .s (.int .u64 x_1354)), (11, .s (.int .u64 x_1356)), (12, .s (.int .u64 x_1363)), (13, .s (.int .u64 x_1365))], [(0, ⟨34, 0, [I 0, I 0]⟩)], 1⟩ (by kernel_rfl) (leB rfl) ?_
  refine w_seq (fun K hK_1379 => w_mix0 (by kernel_rfl) (by kernel_rfl) ?_)
  refine mm_run 0 2 rfl (by kernel_rfl) ?_
  obtain ⟨x_1382, h_1383, h⟩ := bind_some' h
  refine mm_one 2 (.binOp .quo 65 (.tmp 37) (.tmp 38) 65) (some 39) (by kernel_rfl) (by kernel_rfl) (oH_pure (.s (.int .u64 x_1382)) (ev_quo h_1383 (by kernel_rfl) (by kernel_rfl)) rfl) ?_
  refine mm_run 3 5 rfl (by kernel_rfl) ?_
  obtain ⟨x_1386, h_1387, h⟩ := bind_some' h
  refine mm_one 5 (.binOp .quo 65 (.tmp 40) (.tmp 41) 65) (some 42) (by kernel_rfl) (by kernel_rfl) (oH_pure (.s (.int .u64 x_1386)) (ev_quo h_1387 (by kernel_rfl) (by kernel_rfl)) rfl) ?_
  obtain ⟨x_1388, h_1389, h⟩ := bind_some' h
  refine mm_one 6 (.call ⟨.value (.func 58), #[(.tmp 39), (.tmp 42)], #[65, 65]⟩) (some 43) (by kernel_rfl) (by kernel_rfl) (oH_callP (g_bits_Mul64_ok h_1389) (by kernel_rfl) rfl) ?_
  refine mix_fin' hK_1379 ⟨[(1, I a2), (2, I a3), (3, .ip (cs_Ratio a1)), (6, .ptr 0 0), (9, .s (.int .u64 x_1352)), (11, .s (.int .u64 x_1356)), (12, .s (.int .u64 x_1363)), (13, .s (.int .u64 x_1365)), (14, .s (.int .u64 x_1388.1)), (15, .s (.int .u64 x_1388.2))], [(0, ⟨34, 0, [I 0, I 0]⟩)], 1⟩ (by kernel_rfl) (leB rfl) ?_
  refine w_seq (fun K hK_1402 => w_mix0 (by kernel_rfl) (by kernel_rfl) ?_)
  refine mm_run 0 2 rfl (by kernel_rfl) ?_
  obtain ⟨x_1405, h_1406, h⟩ := bind_some' h
  refine mm_one 2 (.binOp .quo 65 (.tmp 47) (.tmp 48) 65) (some 49) (by kernel_rfl) (by kernel_rfl) (oH_pure (.s (.int .u64 x_1405)) (ev_quo h_1406 (by kernel_rfl) (by kernel_rfl)) rfl) ?_
  refine mm_run 3 5 rfl (by kernel_rfl) ?_
  obtain ⟨x_1409, h_1410, h⟩ := bind_some' h
  refine mm_one 5 (.binOp .quo 65 (.tmp 50) (.tmp 51) 65) (some 52) (by kernel_rfl) (by kernel_rfl) (oH_pure (.s (.int .u64 x_1409)) (ev_quo h_1410 (by kernel_rfl) (by kernel_rfl)) rfl) ?_
  obtain ⟨x_1411, h_1412, h⟩ := bind_some' h
  refine mm_one 6 (.call ⟨.value (.func 58), #[(.tmp 49), (.tmp 52)], #[65, 65]⟩) (some 53) (by kernel_rfl) (by kernel_rfl) (oH_callP (g_bits_Mul64_ok h_1412) (by kernel_rfl) rfl) ?_
  refine mix_fin' hK_1402 ⟨[(1, I a2), (2, I a3), (3, .ip (cs_Ratio a1)), (6, .ptr 0 0), (14, .s (.int .u64 x_1388.1)), (15, .s (.int .u64 x_1388.2)), (16, .s (.int .u64 x_1411.1)), (17, .s (.int .u64 x_1411.2))], [(0, ⟨34, 0, [I 0, I 0]⟩)], 1⟩ (by kernel_rfl) (leB rfl) ?_
  refine w_assoc ?_
  refine w_cut h (fun (e_1414 : Bool) => ⟨[(1, I a2), (2, I a3), (3, .ip (cs_Ratio a1)), (6, .ptr 0 0), (15, .s (.int .u64 x_1388.2)), (17, .s (.int .u64 x_1411.2)), (61, B e_1414)], [(0, ⟨34, 0, [I 0, I 0]⟩)], 1⟩) (fun o h h_1415 K hK_1416 => ?_) (fun e_1414 h => ?_)
  · refine w_reg0 ?_
    refine dd_run 0 3 rfl (by kernel_rfl) ?_
    refine ite_both h (fun h_1417 h => ?_) (fun h_1417 h => ?_)
    · refine dd_skip 3 5 2 false rfl (b := (x_1388.1 != 0)) (by kernel_rfl) h_1417 (by kernel_rfl) ?_
      refine dd_one 5 (.pick (.tmp 58) (.const (.bool true)) (.tmp 60)) (some 61) (by kernel_rfl) (o_pure (B true) (ev_pickT h_1417 (by kernel_rfl) (by kernel_rfl)) rfl) ?_
      refine dd_nil 6 rfl ?_
      exact hK_1416 _ _ (Option.some.inj h).symm (to_ren [] (leB rfl) (by kernel_rfl) (by kernel_rfl) (renE_of (by kernel_rfl) (by kernel_rfl)) ⟨reRn (by kernel_rfl) (leB rfl) (by kernel_rfl), trivial⟩)
    · refine dd_runG 3 5 2 false rfl (b := (x_1388.1 != 0)) (by kernel_rfl) h_1417 (by kernel_rfl) ?_
      refine dd_one 5 (.pick (.tmp 58) (.const (.bool true)) (.tmp 60)) (some 61) (by kernel_rfl) (o_pure (B (x_1411.1 != 0)) (ev_pickF h_1417 (by kernel_rfl) (by kernel_rfl)) rfl) ?_
      refine dd_nil 6 rfl ?_
      exact hK_1416 _ _ (Option.some.inj h).symm (to_ren [] (leB rfl) (by kernel_rfl) (by kernel_rfl) (renE_of (by kernel_rfl) (by kernel_rfl)) ⟨reRn (by kernel_rfl) (leB rfl) (by kernel_rfl), trivial⟩)
  · refine w_seq (fun K hK_1419 => ?_)
    refine w_ite h (by kernel_rfl) (fun h_1420 h => ?_) (fun h_1420 h => ?_)
    · refine w_reg ⟨[(6, .ptr 0 0), (7, I 2)], [(0, ⟨34, 0, [I 0, I 0]⟩)], 1⟩ (by kernel_rfl) (leB rfl) ?_
      refine w_ret ?_
      obtain rfl := ((Option.some.inj h).symm).symm
      exact ret_leaf (.inl rfl) ⟨[(6, .ptr 0 0), (7, I 2)], [(0, ⟨34, 0, (cs_Ratio (D.Ratio.mk 0 0))⟩)], 1⟩ (to_ren [] (leB rfl) (by kernel_rfl) (by kernel_rfl) (renE_of (by kernel_rfl) (by kernel_rfl)) ⟨reRn (by kernel_rfl) (leB rfl) (by kernel_rfl), trivial⟩) [.agg (cs_Ratio (D.Ratio.mk 0 0)), I 2] (by kernel_rfl) (by kernel_rfl) (leB rfl) (by kernel_rfl) trivial
    · refine w_skip ?_
      refine hK_1419 _ ⟨[(1, I a2), (2, I a3), (3, .ip (cs_Ratio a1)), (6, .ptr 0 0), (15, .s (.int .u64 x_1388.2)), (17, .s (.int .u64 x_1411.2))], [(0, ⟨34, 0, [I 0, I 0]⟩)], 1⟩ (to_trim (by kernel_rfl) (leB rfl)) ?_
      refine w_seq (fun K hK_1423 => w_reg0 ?_)
      refine dd_run 0 11 rfl (by kernel_rfl) ?_
      obtain ⟨x_1424, h_1425, h⟩ := bind_some' h
      refine dd_one 11 (.call ⟨.value (.func 57), #[(.tmp 71), (.tmp 72), (.tmp 73)], #[4, 65, 65]⟩) (some 74) (by kernel_rfl) (o_callP (g_ratio_reduced_ok h_1425) (by kernel_rfl) rfl) ?_
      refine ops_fin' hK_1423 ⟨[(6, .ptr 0 0), (7, I x_1424.2)], [(0, ⟨34, 0, (cs_Ratio x_1424.1)⟩)], 1⟩ (by kernel_rfl) (leB rfl) ?_
      refine w_ret ?_
      obtain rfl := ((Option.some.inj h).symm).symm
      exact ret_leaf (.inl rfl) ⟨[(6, .ptr 0 0), (7, I x_1424.2)], [(0, ⟨34, 0, (cs_Ratio x_1424.1)⟩)], 1⟩ (to_ren [] (leB rfl) (by kernel_rfl) (by kernel_rfl) (renE_of (by kernel_rfl) (by kernel_rfl)) ⟨reRn (by kernel_rfl) (leB rfl) (by kernel_rfl), trivial⟩) [.agg (cs_Ratio x_1424.1), I x_1424.2] (by kernel_rfl) (by kernel_rfl) (leB rfl) (by kernel_rfl) trivial
/-- estoppel/ratio.Div$1 -/
def g_ratio_Div_1 (a1 : D.Ratio) (a2 : D.Ratio) : Option (D.Ratio × Int) :=
  if (a1.Num == 0) = true then
  some ((D.Ratio.mk 0 0), 1)
  else
  (g_ratio_product a2 a1.Den a1.Num).bind fun x_1437 =>
  some (x_1437.1, x_1437.2)
set_option maxHeartbeats 4000000 in
theorem g_ratio_Div_1_ok {a1 : D.Ratio} {a2 : D.Ratio} {res : D.Ratio × Int} (h : g_ratio_Div_1 a1 a2 = some res) : SpecK Try.prog [] 49 [.ip (cs_Ratio a1), .ip (cs_Ratio a2)] [] 0 (.tup [.agg (cs_Ratio res.1), I res.2]) [] 0 := by
  refine ⟨spec_of_wp Try.func49 (by kernel_rfl) rfl Try.ntmps49 (by rw [Try.results49]) (leB rfl) ?_, by kernel_rfl, trivial, by kernel_rfl, trivial, by kernel_rfl⟩
  unfold g_ratio_Div_1 at h
  refine w_reg ⟨[(0, .ip (cs_Ratio a1)), (1, .ip (cs_Ratio a2)), (2, .ptr 0 0)], [(0, ⟨34, 0, [I 0, I 0]⟩)], 1⟩ (by kernel_rfl) (leB rfl) ?_
  refine w_assoc ?_
  refine w_reg ⟨[(0, .ip (cs_Ratio a1)), (1, .ip (cs_Ratio a2)), (2, .ptr 0 0), (6, B (a1.Num == 0))], [(0, ⟨34, 0, [I 0, I 0]⟩)], 1⟩ (by kernel_rfl) (leB rfl) ?_
  refine w_seq (fun K hK_1432 => ?_)
  refine w_ite h (by kernel_rfl) (fun h_1433 h => ?_) (fun h_1433 h => ?_)
  · refine w_reg ⟨[(2, .ptr 0 0), (3, I 1)], [(0, ⟨34, 0, [I 0, I 0]⟩)], 1⟩ (by kernel_rfl) (leB rfl) ?_
    refine w_ret ?_
    obtain rfl := ((Option.some.inj h).symm).symm
    exact ret_leaf (.inl rfl) ⟨[(2, .ptr 0 0), (3, I 1)], [(0, ⟨34, 0, (cs_Ratio (D.Ratio.mk 0 0))⟩)], 1⟩ (to_ren [] (leB rfl) (by kernel_rfl) (by kernel_rfl) (renE_of (by kernel_rfl) (by kernel_rfl)) ⟨reRn (by kernel_rfl) (leB rfl) (by kernel_rfl), trivial⟩) [.agg (cs_Ratio (D.Ratio.mk 0 0)), I 1] (by kernel_rfl) (by kernel_rfl) (leB rfl) (by kernel_rfl) trivial
  · refine w_skip ?_
    refine hK_1432 _ ⟨[(0, .ip (cs_Ratio a1)), (1, .ip (cs_Ratio a2)), (2, .ptr 0 0)], [(0, ⟨34, 0, [I 0, I 0]⟩)], 1⟩ (to_trim (by kernel_rfl) (leB rfl)) ?_
    refine w_seq (fun K hK_1436 => w_reg0 ?_)
    refine dd_run 0 5 rfl (by kernel_rfl) ?_
    obtain ⟨x_1437, h_1438, h⟩ := bind_some' h
    refine dd_one 5 (.call ⟨.value (.func 50), #[(.tmp 8), (.tmp 10), (.tmp 12)], #[34, 3, 3]⟩) (some 13) (by kernel_rfl) (o_callP (g_ratio_product_ok h_1438) (by kernel_rfl) rfl) ?_
    refine ops_fin' hK_1436 ⟨[(2, .ptr 0 0), (3, I x_1437.2)], [(0, ⟨34, 0, (cs_Ratio x_1437.1)⟩)], 1⟩ (by kernel_rfl) (leB rfl) ?_
    refine w_ret ?_
    obtain rfl := ((Option.some.inj h).symm).symm
    exact ret_leaf (.inl rfl) ⟨[(2, .ptr 0 0), (3, I x_1437.2)], [(0, ⟨34, 0, (cs_Ratio x_1437.1)⟩)], 1⟩ (to_ren [] (leB rfl) (by kernel_rfl) (by kernel_rfl) (renE_of (by kernel_rfl) (by kernel_rfl)) ⟨reRn (by kernel_rfl) (leB rfl) (by kernel_rfl), trivial⟩) [.agg (cs_Ratio x_1437.1), I x_1437.2] (by kernel_rfl) (by kernel_rfl) (leB rfl) (by kernel_rfl) trivial
/-- estoppel/ratio.on -/
def g_ratio_on_Div_1 (a1 : D.Ratio) (a2 : D.Ratio) (a3 : D.Ratio) (a4 : D.Ratio) : Option (D.Ratio × Int) :=
  bindF (ρ := Bool) (
  (g_ratio_Valid a1).bind fun x_1452 =>
  if (!x_1452) = true then
  some (.inl true)
  else
  (g_ratio_Valid a2).bind fun x_1455 =>
  some (.inl (!x_1455))) (fun (e_1449 : Bool) =>
  if e_1449 = true then
  some ((D.Ratio.mk 0 0), 1)
  else
  (g_ratio_Div_1 a3 a4).bind fun x_1463 =>
  some (x_1463.1, x_1463.2))
set_option maxHeartbeats 4000000 in
theorem g_ratio_on_Div_1_ok {a1 : D.Ratio} {a2 : D.Ratio} {a3 : D.Ratio} {a4 : D.Ratio} {res : D.Ratio × Int} (h : g_ratio_on_Div_1 a1 a2 a3 a4 = some res) : SpecK Try.prog [] 45 [.agg (cs_Ratio a1), .agg (cs_Ratio a2), .fn 49 [.ip (cs_Ratio a3), .ip (cs_Ratio a4)]] [] 0 (.tup [.agg (cs_Ratio res.1), I res.2]) [] 0 := by
  refine ⟨spec_of_wp Try.func45 (by kernel_rfl) rfl Try.ntmps45 (by rw [Try.results45]) (leB rfl) ?_, by kernel_rfl, trivial, by kernel_rfl, trivial, by kernel_rfl⟩
  unfold g_ratio_on_Div_1 at h
  refine w_reg ⟨[(2, .fn 49 [.ip (cs_Ratio a3), .ip (cs_Ratio a4)]), (3, .ip (cs_Ratio a1)), (4, .ip (cs_Ratio a2)), (6, .ptr 0 0)], [(0, ⟨34, 0, [I 0, I 0]⟩)], 1⟩ (by kernel_rfl) (leB rfl) ?_
  refine w_assoc ?_
  refine w_cut h (fun (e_1449 : Bool) => ⟨[(2, .fn 49 [.ip (cs_Ratio a3), .ip (cs_Ratio a4)]), (6, .ptr 0 0), (15, B e_1449)], [(0, ⟨34, 0, [I 0, I 0]⟩)], 1⟩) (fun o h h_1450 K hK_1451 => ?_) (fun e_1449 h => ?_)
  · refine w_reg0 ?_
    refine dd_run 0 1 rfl (by kernel_rfl) ?_
    obtain ⟨x_1452, h_1453, h⟩ := bind_some' h
    refine dd_one 1 (.call ⟨.value (.func 43), #[(.tmp 8)], #[34]⟩) (some 9) (by kernel_rfl) (o_callP (g_ratio_Valid_ok h_1453) (by kernel_rfl) rfl) ?_
    refine dd_run 2 4 rfl (by kernel_rfl) ?_
    refine ite_both h (fun h_1454 h => ?_) (fun h_1454 h => ?_)
    · refine dd_skip 4 7 3 false rfl (b := (!x_1452)) (by kernel_rfl) h_1454 (by kernel_rfl) ?_
      refine dd_one 7 (.pick (.tmp 11) (.const (.bool true)) (.tmp 14)) (some 15) (by kernel_rfl) (o_pure (B true) (ev_pickT h_1454 (by kernel_rfl) (by kernel_rfl)) rfl) ?_
      refine dd_nil 8 rfl ?_
      exact hK_1451 _ _ (Option.some.inj h).symm (to_ren [] (leB rfl) (by kernel_rfl) (by kernel_rfl) (renE_of (by kernel_rfl) (by kernel_rfl)) ⟨reRn (by kernel_rfl) (leB rfl) (by kernel_rfl), trivial⟩)
    · refine dd_runG 4 5 3 false rfl (b := (!x_1452)) (by kernel_rfl) h_1454 (by kernel_rfl) ?_
      obtain ⟨x_1455, h_1456, h⟩ := bind_some' h
      refine dd_oneG 5 (.call ⟨.value (.func 43), #[(.tmp 12)], #[34]⟩) (some 13) 3 false (b := (!x_1452)) (by kernel_rfl) (by kernel_rfl) h_1454 (o_callP (g_ratio_Valid_ok h_1456) (by kernel_rfl) rfl) ?_
      refine dd_runG 6 7 3 false rfl (b := (!x_1452)) (by kernel_rfl) h_1454 (by kernel_rfl) ?_
      refine dd_one 7 (.pick (.tmp 11) (.const (.bool true)) (.tmp 14)) (some 15) (by kernel_rfl) (o_pure (B (!x_1455)) (ev_pickF h_1454 (by kernel_rfl) (by kernel_rfl)) rfl) ?_
      refine dd_nil 8 rfl ?_
      exact hK_1451 _ _ (Option.some.inj h).symm (to_ren [] (leB rfl) (by kernel_rfl) (by kernel_rfl) (renE_of (by kernel_rfl) (by kernel_rfl)) ⟨reRn (by kernel_rfl) (leB rfl) (by kernel_rfl), trivial⟩)
  · refine w_seq (fun K hK_1458 => ?_)
    refine w_ite h (by kernel_rfl) (fun h_1459 h => ?_) (fun h_1459 h => ?_)
    · refine w_reg ⟨[(6, .ptr 0 0), (7, I 1)], [(0, ⟨34, 0, [I 0, I 0]⟩)], 1⟩ (by kernel_rfl) (leB rfl) ?_
      refine w_ret ?_
      obtain rfl := ((Option.some.inj h).symm).symm
      exact ret_leaf (.inl rfl) ⟨[(6, .ptr 0 0), (7, I 1)], [(0, ⟨34, 0, (cs_Ratio (D.Ratio.mk 0 0))⟩)], 1⟩ (to_ren [] (leB rfl) (by kernel_rfl) (by kernel_rfl) (renE_of (by kernel_rfl) (by kernel_rfl)) ⟨reRn (by kernel_rfl) (leB rfl) (by kernel_rfl), trivial⟩) [.agg (cs_Ratio (D.Ratio.mk 0 0)), I 1] (by kernel_rfl) (by kernel_rfl) (leB rfl) (by kernel_rfl) trivial
    · refine w_skip ?_
      refine hK_1458 _ ⟨[(2, .fn 49 [.ip (cs_Ratio a3), .ip (cs_Ratio a4)]), (6, .ptr 0 0)], [(0, ⟨34, 0, [I 0, I 0]⟩)], 1⟩ (to_trim (by kernel_rfl) (leB rfl)) ?_
      refine w_seq (fun K hK_1462 => w_reg0 ?_)
      refine dd_run 0 1 rfl (by kernel_rfl) ?_
      obtain ⟨x_1463, h_1464, h⟩ := bind_some' h
      refine dd_one 1 (.call ⟨.value (.tmp 17), #[], #[]⟩) (some 18) (by kernel_rfl) (o_callP (g_ratio_Div_1_ok h_1464) (by kernel_rfl) rfl) ?_
      refine ops_fin' hK_1462 ⟨[(6, .ptr 0 0), (7, I x_1463.2)], [(0, ⟨34, 0, (cs_Ratio x_1463.1)⟩)], 1⟩ (by kernel_rfl) (leB rfl) ?_
      refine w_ret ?_
      obtain rfl := ((Option.some.inj h).symm).symm
      exact ret_leaf (.inl rfl) ⟨[(6, .ptr 0 0), (7, I x_1463.2)], [(0, ⟨34, 0, (cs_Ratio x_1463.1)⟩)], 1⟩ (to_ren [] (leB rfl) (by kernel_rfl) (by kernel_rfl) (renE_of (by kernel_rfl) (by kernel_rfl)) ⟨reRn (by kernel_rfl) (leB rfl) (by kernel_rfl), trivial⟩) [.agg (cs_Ratio x_1463.1), I x_1463.2] (by kernel_rfl) (by kernel_rfl) (leB rfl) (by kernel_rfl) trivial
/-- estoppel/ratio.Div -/
def g_ratio_Div (a1 : D.Ratio) (a2 : D.Ratio) : Option (D.Ratio × Int) :=
  (g_ratio_on_Div_1 a1 a2 a2 a1).bind fun x_1473 =>
  some (x_1473.1, x_1473.2)
set_option maxHeartbeats 4000000 in
theorem g_ratio_Div_ok {a1 : D.Ratio} {a2 : D.Ratio} {res : D.Ratio × Int} (h : g_ratio_Div a1 a2 = some res) : SpecK Try.prog [] 23 [.agg (cs_Ratio a1), .agg (cs_Ratio a2)] [] 0 (.tup [.agg (cs_Ratio res.1), I res.2]) [] 0 := by
  refine ⟨spec_of_wp Try.func23 (by kernel_rfl) rfl Try.ntmps23 (by rw [Try.results23]) (leB rfl) ?_, by kernel_rfl, trivial, by kernel_rfl, trivial, by kernel_rfl⟩
  unfold g_ratio_Div at h
  refine w_reg ⟨[(2, .ip (cs_Ratio a1)), (3, .ip (cs_Ratio a2)), (4, .ptr 0 0)], [(0, ⟨34, 0, [I 0, I 0]⟩)], 1⟩ (by kernel_rfl) (leB rfl) ?_
  refine w_seq (fun K hK_1472 => w_reg0 ?_)
  refine dd_run 0 3 rfl (by kernel_rfl) ?_
  obtain ⟨x_1473, h_1474, h⟩ := bind_some' h
  refine dd_one 3 (.call ⟨.value (.func 45), #[(.tmp 6), (.tmp 7), (.tmp 8)], #[34, 34, 61]⟩) (some 9) (by kernel_rfl) (o_callP (g_ratio_on_Div_1_ok h_1474) (by kernel_rfl) rfl) ?_
  refine ops_fin' hK_1472 ⟨[(4, .ptr 0 0), (5, I x_1473.2)], [(0, ⟨34, 0, (cs_Ratio x_1473.1)⟩)], 1⟩ (by kernel_rfl) (leB rfl) ?_
  refine w_ret ?_
  obtain rfl := ((Option.some.inj h).symm).symm
  exact ret_leaf (.inl rfl) ⟨[(4, .ptr 0 0), (5, I x_1473.2)], [(0, ⟨34, 0, (cs_Ratio x_1473.1)⟩)], 1⟩ (to_ren [] (leB rfl) (by kernel_rfl) (by kernel_rfl) (renE_of (by kernel_rfl) (by kernel_rfl)) ⟨reRn (by kernel_rfl) (leB rfl) (by kernel_rfl), trivial⟩) [.agg (cs_Ratio x_1473.1), I x_1473.2] (by kernel_rfl) (by kernel_rfl) (leB rfl) (by kernel_rfl) trivial
/-- estoppel/netting.Valid$1 -/
def g_netting_Valid_1 (a1 : Int) (a2 : Int) : Option (Bool) :=
  if (decide (a1 ≥ 0)) = true then
  some (decide (a1 < a2))
  else
  some false
set_option maxHeartbeats 4000000 in
theorem g_netting_Valid_1_ok {a1 : Int} {a2 : Int} {res : Bool} (h : g_netting_Valid_1 a1 a2 = some res) : SpecK Try.prog [] 40 [I a1, .ip [I a2]] [] 0 (B res) [] 0 := by
  refine ⟨spec_of_wp Try.func40 (by kernel_rfl) rfl Try.ntmps40 (by rw [Try.results40]) (leB rfl) ?_, by kernel_rfl, trivial, by kernel_rfl, trivial, by kernel_rfl⟩
  unfold g_netting_Valid_1 at h
  refine w_reg ⟨[(0, I a1), (1, .ip [I a2])], [], 0⟩ (by kernel_rfl) (leB rfl) ?_
  refine w_seq (fun K hK_1493 => w_reg0 ?_)
  refine dd_run 0 3 rfl (by kernel_rfl) ?_
  refine ite_both h (fun h_1494 h => ?_) (fun h_1494 h => ?_)
  · refine dd_runG 3 6 2 true rfl (b := (decide (a1 ≥ 0))) (by kernel_rfl) h_1494 (by kernel_rfl) ?_
    refine dd_one 6 (.pick (.tmp 6) (.tmp 9) (.const (.bool false))) (some 10) (by kernel_rfl) (o_pure (B (decide (a1 < a2))) (ev_pickT h_1494 (by kernel_rfl) (by kernel_rfl)) rfl) ?_
    refine ops_fin' hK_1493 ⟨[(3, B (decide (a1 < a2)))], [], 0⟩ (by kernel_rfl) (leB rfl) ?_
    refine w_ret ?_
    obtain rfl := ((Option.some.inj h).symm).symm
    exact ret_leaf (.inl rfl) ⟨[(3, B (decide (a1 < a2)))], [], 0⟩ (to_ren [] (leB rfl) (by kernel_rfl) (by kernel_rfl) (renE_of (by kernel_rfl) (by kernel_rfl)) trivial) [B (decide (a1 < a2))] (by kernel_rfl) (by kernel_rfl) (leB rfl) (by kernel_rfl) trivial
  · refine dd_skip 3 6 2 true rfl (b := (decide (a1 ≥ 0))) (by kernel_rfl) h_1494 (by kernel_rfl) ?_
    refine dd_one 6 (.pick (.tmp 6) (.tmp 9) (.const (.bool false))) (some 10) (by kernel_rfl) (o_pure (B false) (ev_pickF h_1494 (by kernel_rfl) (by kernel_rfl)) rfl) ?_
    refine ops_fin' hK_1493 ⟨[(3, B false)], [], 0⟩ (by kernel_rfl) (leB rfl) ?_
    refine w_ret ?_
    obtain rfl := ((Option.some.inj h).symm).symm
    exact ret_leaf (.inl rfl) ⟨[(3, B false)], [], 0⟩ (to_ren [] (leB rfl) (by kernel_rfl) (by kernel_rfl) (renE_of (by kernel_rfl) (by kernel_rfl)) trivial) [B false] (by kernel_rfl) (by kernel_rfl) (leB rfl) (by kernel_rfl) trivial
/-- estoppel/netting.Valid$2 -/
def g_netting_Valid_2 (a1 : D.Debt) (a2 : Int) : Option (Bool) :=
  (g_netting_Valid_1 a1.From a2).bind fun x_1527 =>
  if (!x_1527) = true then
  some true
  else
  (g_netting_Valid_1 a1.To a2).bind fun x_1530 =>
  if (!x_1530) = true then
  some true
  else
  if (a1.From == a1.To) = true then
  some true
  else
  (g_ratio_Valid a1.Amount).bind fun x_1534 =>
  if (!x_1534) = true then
  some true
  else
  some (decide (a1.Amount.Num ≤ 0))
set_option maxHeartbeats 4000000 in
theorem g_netting_Valid_2_ok {a1 : D.Debt} {a2 : Int} {res : Bool} (h : g_netting_Valid_2 a1 a2 = some res) : SpecK Try.prog [] 42 [.agg (cs_Debt a1), .ptr 0 0] [(0, ⟨55, 0, [.fn 40 [.ip [I a2]]]⟩)] 1 (B res) [(0, ⟨55, 0, [.fn 40 [.ip [I a2]]]⟩)] 1 := by
  refine ⟨spec_of_wp Try.func42 (by kernel_rfl) rfl Try.ntmps42 (by rw [Try.results42]) (leB rfl) ?_, by kernel_rfl, ⟨⟨leB rfl, by kernel_rfl⟩, trivial⟩, by kernel_rfl, ⟨⟨leB rfl, by kernel_rfl⟩, trivial⟩, by kernel_rfl⟩
  unfold g_netting_Valid_2 at h
  refine w_reg ⟨[(1, .ptr 0 0), (2, .ip (cs_Debt a1))], [(0, ⟨55, 0, [.fn 40 [.ip [I a2]]]⟩)], 1⟩ (by kernel_rfl) (leB rfl) ?_
  refine w_seq (fun K hK_1526 => w_reg0 ?_)
  refine dd_run 0 3 rfl (by kernel_rfl) ?_
  obtain ⟨x_1527, h_1528, h⟩ := bind_some' h
  refine dd_one 3 (.call ⟨.value (.tmp 4), #[(.tmp 6)], #[3]⟩) (some 7) (by kernel_rfl) (o_callP (g_netting_Valid_1_ok h_1528) (by kernel_rfl) rfl) ?_
  refine dd_run 4 6 rfl (by kernel_rfl) ?_
  refine ite_both h (fun h_1529 h => ?_) (fun h_1529 h => ?_)
  · refine dd_skip 6 11 5 false rfl (b := (!x_1527)) (by kernel_rfl) h_1529 (by kernel_rfl) ?_
    refine dd_one 11 (.pick (.tmp 9) (.const (.bool true)) (.tmp 14)) (some 15) (by kernel_rfl) (o_pure (B true) (ev_pickT h_1529 (by kernel_rfl) (by kernel_rfl)) rfl) ?_
    refine dd_run 12 13 rfl (by kernel_rfl) ?_
    refine dd_skip 13 18 12 false rfl (b := true) (by kernel_rfl) rfl (by kernel_rfl) ?_
    refine dd_run 18 20 rfl (by kernel_rfl) ?_
    refine dd_skip 20 24 19 false rfl (b := true) (by kernel_rfl) rfl (by kernel_rfl) ?_
    refine dd_run 24 26 rfl (by kernel_rfl) ?_
    refine dd_skip 26 30 25 false rfl (b := true) (by kernel_rfl) rfl (by kernel_rfl) ?_
    refine ops_fin' hK_1526 ⟨[(3, B true)], [(0, ⟨55, 0, [.fn 40 [.ip [I a2]]]⟩)], 1⟩ (by kernel_rfl) (leB rfl) ?_
    refine w_ret ?_
    obtain rfl := ((Option.some.inj h).symm).symm
    exact ret_leaf (.inl rfl) ⟨[(3, B true)], [(0, ⟨55, 0, [.fn 40 [.ip [I a2]]]⟩)], 1⟩ (to_ren [] (leB rfl) (by kernel_rfl) (by kernel_rfl) (renE_of (by kernel_rfl) (by kernel_rfl)) ⟨reRn (by kernel_rfl) (leB rfl) (by kernel_rfl), trivial⟩) [B true] (by kernel_rfl) (by kernel_rfl) (leB rfl) (by kernel_rfl) ⟨⟨by kernel_rfl, leB rfl, (by kernel_rfl)⟩, trivial⟩
  · refine dd_runG 6 9 5 false rfl (b := (!x_1527)) (by kernel_rfl) h_1529 (by kernel_rfl) ?_
    obtain ⟨x_1530, h_1531, h⟩ := bind_some' h
    refine dd_oneG 9 (.call ⟨.value (.tmp 10), #[(.tmp 12)], #[3]⟩) (some 13) 5 false (b := (!x_1527)) (by kernel_rfl) (by kernel_rfl) h_1529 (o_callP (g_netting_Valid_1_ok h_1531) (by kernel_rfl) rfl) ?_
    refine dd_runG 10 11 5 false rfl (b := (!x_1527)) (by kernel_rfl) h_1529 (by kernel_rfl) ?_
    refine dd_one 11 (.pick (.tmp 9) (.const (.bool true)) (.tmp 14)) (some 15) (by kernel_rfl) (o_pure (B (!x_1530)) (ev_pickF h_1529 (by kernel_rfl) (by kernel_rfl)) rfl) ?_
    refine dd_run 12 13 rfl (by kernel_rfl) ?_
    refine ite_both h (fun h_1532 h => ?_) (fun h_1532 h => ?_)
    · refine dd_skip 13 18 12 false rfl (b := (!x_1530)) (by kernel_rfl) h_1532 (by kernel_rfl) ?_
      refine dd_one 18 (.pick (.tmp 16) (.const (.bool true)) (.tmp 21)) (some 22) (by kernel_rfl) (o_pure (B true) (ev_pickT h_1532 (by kernel_rfl) (by kernel_rfl)) rfl) ?_
      refine dd_run 19 20 rfl (by kernel_rfl) ?_
      refine dd_skip 20 24 19 false rfl (b := true) (by kernel_rfl) rfl (by kernel_rfl) ?_
      refine dd_run 24 26 rfl (by kernel_rfl) ?_
      refine dd_skip 26 30 25 false rfl (b := true) (by kernel_rfl) rfl (by kernel_rfl) ?_
      refine ops_fin' hK_1526 ⟨[(3, B true)], [(0, ⟨55, 0, [.fn 40 [.ip [I a2]]]⟩)], 1⟩ (by kernel_rfl) (leB rfl) ?_
      refine w_ret ?_
      obtain rfl := ((Option.some.inj h).symm).symm
      exact ret_leaf (.inl rfl) ⟨[(3, B true)], [(0, ⟨55, 0, [.fn 40 [.ip [I a2]]]⟩)], 1⟩ (to_ren [] (leB rfl) (by kernel_rfl) (by kernel_rfl) (renE_of (by kernel_rfl) (by kernel_rfl)) ⟨reRn (by kernel_rfl) (leB rfl) (by kernel_rfl), trivial⟩) [B true] (by kernel_rfl) (by kernel_rfl) (leB rfl) (by kernel_rfl) ⟨⟨by kernel_rfl, leB rfl, (by kernel_rfl)⟩, trivial⟩
    · refine dd_runG 13 18 12 false rfl (b := (!x_1530)) (by kernel_rfl) h_1532 (by kernel_rfl) ?_
      refine dd_one 18 (.pick (.tmp 16) (.const (.bool true)) (.tmp 21)) (some 22) (by kernel_rfl) (o_pure (B (a1.From == a1.To)) (ev_pickF h_1532 (by kernel_rfl) (by kernel_rfl)) rfl) ?_
      refine dd_run 19 20 rfl (by kernel_rfl) ?_
      refine ite_both h (fun h_1533 h => ?_) (fun h_1533 h => ?_)
      · refine dd_skip 20 24 19 false rfl (b := (a1.From == a1.To)) (by kernel_rfl) h_1533 (by kernel_rfl) ?_
        refine dd_one 24 (.pick (.tmp 23) (.const (.bool true)) (.tmp 27)) (some 28) (by kernel_rfl) (o_pure (B true) (ev_pickT h_1533 (by kernel_rfl) (by kernel_rfl)) rfl) ?_
        refine dd_run 25 26 rfl (by kernel_rfl) ?_
        refine dd_skip 26 30 25 false rfl (b := true) (by kernel_rfl) rfl (by kernel_rfl) ?_
        refine ops_fin' hK_1526 ⟨[(3, B true)], [(0, ⟨55, 0, [.fn 40 [.ip [I a2]]]⟩)], 1⟩ (by kernel_rfl) (leB rfl) ?_
        refine w_ret ?_
        obtain rfl := ((Option.some.inj h).symm).symm
        exact ret_leaf (.inl rfl) ⟨[(3, B true)], [(0, ⟨55, 0, [.fn 40 [.ip [I a2]]]⟩)], 1⟩ (to_ren [] (leB rfl) (by kernel_rfl) (by kernel_rfl) (renE_of (by kernel_rfl) (by kernel_rfl)) ⟨reRn (by kernel_rfl) (leB rfl) (by kernel_rfl), trivial⟩) [B true] (by kernel_rfl) (by kernel_rfl) (leB rfl) (by kernel_rfl) ⟨⟨by kernel_rfl, leB rfl, (by kernel_rfl)⟩, trivial⟩
      · refine dd_runG 20 22 19 false rfl (b := (a1.From == a1.To)) (by kernel_rfl) h_1533 (by kernel_rfl) ?_
        obtain ⟨x_1534, h_1535, h⟩ := bind_some' h
        refine dd_oneG 22 (.call ⟨.value (.func 43), #[(.tmp 25)], #[34]⟩) (some 26) 19 false (b := (a1.From == a1.To)) (by kernel_rfl) (by kernel_rfl) h_1533 (o_callP (g_ratio_Valid_ok h_1535) (by kernel_rfl) rfl) ?_
        refine dd_runG 23 24 19 false rfl (b := (a1.From == a1.To)) (by kernel_rfl) h_1533 (by kernel_rfl) ?_
        refine dd_one 24 (.pick (.tmp 23) (.const (.bool true)) (.tmp 27)) (some 28) (by kernel_rfl) (o_pure (B (!x_1534)) (ev_pickF h_1533 (by kernel_rfl) (by kernel_rfl)) rfl) ?_
        refine dd_run 25 26 rfl (by kernel_rfl) ?_
        refine ite_both h (fun h_1536 h => ?_) (fun h_1536 h => ?_)
        · refine dd_skip 26 30 25 false rfl (b := (!x_1534)) (by kernel_rfl) h_1536 (by kernel_rfl) ?_
          refine dd_one 30 (.pick (.tmp 29) (.const (.bool true)) (.tmp 33)) (some 34) (by kernel_rfl) (o_pure (B true) (ev_pickT h_1536 (by kernel_rfl) (by kernel_rfl)) rfl) ?_
          refine ops_fin' hK_1526 ⟨[(3, B true)], [(0, ⟨55, 0, [.fn 40 [.ip [I a2]]]⟩)], 1⟩ (by kernel_rfl) (leB rfl) ?_
          refine w_ret ?_
          obtain rfl := ((Option.some.inj h).symm).symm
          exact ret_leaf (.inl rfl) ⟨[(3, B true)], [(0, ⟨55, 0, [.fn 40 [.ip [I a2]]]⟩)], 1⟩ (to_ren [] (leB rfl) (by kernel_rfl) (by kernel_rfl) (renE_of (by kernel_rfl) (by kernel_rfl)) ⟨reRn (by kernel_rfl) (leB rfl) (by kernel_rfl), trivial⟩) [B true] (by kernel_rfl) (by kernel_rfl) (leB rfl) (by kernel_rfl) ⟨⟨by kernel_rfl, leB rfl, (by kernel_rfl)⟩, trivial⟩
        · refine dd_runG 26 30 25 false rfl (b := (!x_1534)) (by kernel_rfl) h_1536 (by kernel_rfl) ?_
          refine dd_one 30 (.pick (.tmp 29) (.const (.bool true)) (.tmp 33)) (some 34) (by kernel_rfl) (o_pure (B (decide (a1.Amount.Num ≤ 0))) (ev_pickF h_1536 (by kernel_rfl) (by kernel_rfl)) rfl) ?_
          refine ops_fin' hK_1526 ⟨[(3, B (decide (a1.Amount.Num ≤ 0)))], [(0, ⟨55, 0, [.fn 40 [.ip [I a2]]]⟩)], 1⟩ (by kernel_rfl) (leB rfl) ?_
          refine w_ret ?_
          obtain rfl := ((Option.some.inj h).symm).symm
          exact ret_leaf (.inl rfl) ⟨[(3, B (decide (a1.Amount.Num ≤ 0)))], [(0, ⟨55, 0, [.fn 40 [.ip [I a2]]]⟩)], 1⟩ (to_ren [] (leB rfl) (by kernel_rfl) (by kernel_rfl) (renE_of (by kernel_rfl) (by kernel_rfl)) ⟨reRn (by kernel_rfl) (leB rfl) (by kernel_rfl), trivial⟩) [B (decide (a1.Amount.Num ≤ 0))] (by kernel_rfl) (by kernel_rfl) (leB rfl) (by kernel_rfl) ⟨⟨by kernel_rfl, leB rfl, (by kernel_rfl)⟩, trivial⟩
end Go.Proofs.Ytgggekjhfdkgkaa.Ab
