/- Functions of the program as plain functions (printed by wip/dec.py). -/
import Derived.Test.YtdfokoapenhalaaDoorDq1
namespace Go.Proofs.YtdfokoapenhalaaDoor.Ab
open Go Go.RowKit Go.Shelf
/-- math/bits.Mul64 -/
def g_bits_Mul64 (a1 : Int) (a2 : Int) : Option (Int × Int) :=
  some ((IntKind.u64.wrap ((IntKind.u64.wrap ((IntKind.u64.wrap ((shrK .u64 a1 32) * (shrK .u64 a2 32))) + (shrK .u64 (IntKind.u64.wrap ((IntKind.u64.wrap ((shrK .u64 a1 32) * (andK .u64 a2 4294967295))) + (shrK .u64 (IntKind.u64.wrap ((andK .u64 a1 4294967295) * (andK .u64 a2 4294967295))) 32))) 32))) + (shrK .u64 (IntKind.u64.wrap ((andK .u64 (IntKind.u64.wrap ((IntKind.u64.wrap ((shrK .u64 a1 32) * (andK .u64 a2 4294967295))) + (shrK .u64 (IntKind.u64.wrap ((andK .u64 a1 4294967295) * (andK .u64 a2 4294967295))) 32))) 4294967295) + (IntKind.u64.wrap ((andK .u64 a1 4294967295) * (shrK .u64 a2 32))))) 32))), (IntKind.u64.wrap (a1 * a2)))
set_option maxHeartbeats 4000000 in
theorem g_bits_Mul64_ok {a1 : Int} {a2 : Int} {res : Int × Int} (h : g_bits_Mul64 a1 a2 = some res) : SpecK Tryd.prog [] 62 [.s (.int .u64 a1), .s (.int .u64 a2)] [] 0 (.tup [.s (.int .u64 res.1), .s (.int .u64 res.2)]) [] 0 := by
  refine ⟨spec_of_wp Tryd.func62 (by kernel_rfl) rfl Tryd.ntmps62 (by rw [Tryd.results62]) (leB rfl) ?_, by kernel_rfl, trivial, by kernel_rfl, trivial, by kernel_rfl⟩
  unfold g_bits_Mul64 at h
  refine w_reg ⟨[(0, .s (.int .u64 a1)), (1, .s (.int .u64 a2))], [], 0⟩ (by kernel_rfl) (leB rfl) ?_
  refine w_reg ⟨[(0, .s (.int .u64 a1)), (1, .s (.int .u64 a2)), (6, .s (.int .u64 (andK .u64 a1 4294967295)))], [], 0⟩ (by kernel_rfl) (leB rfl) ?_
  refine w_reg ⟨[(0, .s (.int .u64 a1)), (1, .s (.int .u64 a2)), (6, .s (.int .u64 (andK .u64 a1 4294967295))), (7, .s (.int .u64 (shrK .u64 a1 32)))], [], 0⟩ (by kernel_rfl) (leB rfl) ?_
  refine w_reg ⟨[(0, .s (.int .u64 a1)), (1, .s (.int .u64 a2)), (6, .s (.int .u64 (andK .u64 a1 4294967295))), (7, .s (.int .u64 (shrK .u64 a1 32))), (8, .s (.int .u64 (andK .u64 a2 4294967295)))], [], 0⟩ (by kernel_rfl) (leB rfl) ?_
  refine w_reg ⟨[(0, .s (.int .u64 a1)), (1, .s (.int .u64 a2)), (6, .s (.int .u64 (andK .u64 a1 4294967295))), (7, .s (.int .u64 (shrK .u64 a1 32))), (8, .s (.int .u64 (andK .u64 a2 4294967295))), (9, .s (.int .u64 (shrK .u64 a2 32)))], [], 0⟩ (by kernel_rfl) (leB rfl) ?_
  refine w_reg ⟨[(0, .s (.int .u64 a1)), (1, .s (.int .u64 a2)), (6, .s (.int .u64 (andK .u64 a1 4294967295))), (7, .s (.int .u64 (shrK .u64 a1 32))), (8, .s (.int .u64 (andK .u64 a2 4294967295))), (9, .s (.int .u64 (shrK .u64 a2 32))), (10, .s (.int .u64 (IntKind.u64.wrap ((andK .u64 a1 4294967295) * (andK .u64 a2 4294967295)))))], [], 0⟩ (by kernel_rfl) (leB rfl) ?_
  refine w_reg ⟨[(0, .s (.int .u64 a1)), (1, .s (.int .u64 a2)), (6, .s (.int .u64 (andK .u64 a1 4294967295))), (7, .s (.int .u64 (shrK .u64 a1 32))), (9, .s (.int .u64 (shrK .u64 a2 32))), (11, .s (.int .u64 (IntKind.u64.wrap ((IntKind.u64.wrap ((shrK .u64 a1 32) * (andK .u64 a2 4294967295))) + (shrK .u64 (IntKind.u64.wrap ((andK .u64 a1 4294967295) * (andK .u64 a2 4294967295))) 32)))))], [], 0⟩ (by kernel_rfl) (leB rfl) ?_
  refine w_reg ⟨[(0, .s (.int .u64 a1)), (1, .s (.int .u64 a2)), (6, .s (.int .u64 (andK .u64 a1 4294967295))), (7, .s (.int .u64 (shrK .u64 a1 32))), (9, .s (.int .u64 (shrK .u64 a2 32))), (11, .s (.int .u64 (IntKind.u64.wrap ((IntKind.u64.wrap ((shrK .u64 a1 32) * (andK .u64 a2 4294967295))) + (shrK .u64 (IntKind.u64.wrap ((andK .u64 a1 4294967295) * (andK .u64 a2 4294967295))) 32))))), (12, .s (.int .u64 (andK .u64 (IntKind.u64.wrap ((IntKind.u64.wrap ((shrK .u64 a1 32) * (andK .u64 a2 4294967295))) + (shrK .u64 (IntKind.u64.wrap ((andK .u64 a1 4294967295) * (andK .u64 a2 4294967295))) 32))) 4294967295)))], [], 0⟩ (by kernel_rfl) (leB rfl) ?_
  refine w_reg ⟨[(0, .s (.int .u64 a1)), (1, .s (.int .u64 a2)), (6, .s (.int .u64 (andK .u64 a1 4294967295))), (7, .s (.int .u64 (shrK .u64 a1 32))), (9, .s (.int .u64 (shrK .u64 a2 32))), (12, .s (.int .u64 (andK .u64 (IntKind.u64.wrap ((IntKind.u64.wrap ((shrK .u64 a1 32) * (andK .u64 a2 4294967295))) + (shrK .u64 (IntKind.u64.wrap ((andK .u64 a1 4294967295) * (andK .u64 a2 4294967295))) 32))) 4294967295))), (13, .s (.int .u64 (shrK .u64 (IntKind.u64.wrap ((IntKind.u64.wrap ((shrK .u64 a1 32) * (andK .u64 a2 4294967295))) + (shrK .u64 (IntKind.u64.wrap ((andK .u64 a1 4294967295) * (andK .u64 a2 4294967295))) 32))) 32)))], [], 0⟩ (by kernel_rfl) (leB rfl) ?_
  refine w_reg ⟨[(0, .s (.int .u64 a1)), (1, .s (.int .u64 a2)), (7, .s (.int .u64 (shrK .u64 a1 32))), (9, .s (.int .u64 (shrK .u64 a2 32))), (12, .s (.int .u64 (IntKind.u64.wrap ((andK .u64 (IntKind.u64.wrap ((IntKind.u64.wrap ((shrK .u64 a1 32) * (andK .u64 a2 4294967295))) + (shrK .u64 (IntKind.u64.wrap ((andK .u64 a1 4294967295) * (andK .u64 a2 4294967295))) 32))) 4294967295) + (IntKind.u64.wrap ((andK .u64 a1 4294967295) * (shrK .u64 a2 32))))))), (13, .s (.int .u64 (shrK .u64 (IntKind.u64.wrap ((IntKind.u64.wrap ((shrK .u64 a1 32) * (andK .u64 a2 4294967295))) + (shrK .u64 (IntKind.u64.wrap ((andK .u64 a1 4294967295) * (andK .u64 a2 4294967295))) 32))) 32)))], [], 0⟩ (by kernel_rfl) (leB rfl) ?_
  refine w_reg ⟨[(0, .s (.int .u64 a1)), (1, .s (.int .u64 a2)), (4, .s (.int .u64 (IntKind.u64.wrap ((IntKind.u64.wrap ((IntKind.u64.wrap ((shrK .u64 a1 32) * (shrK .u64 a2 32))) + (shrK .u64 (IntKind.u64.wrap ((IntKind.u64.wrap ((shrK .u64 a1 32) * (andK .u64 a2 4294967295))) + (shrK .u64 (IntKind.u64.wrap ((andK .u64 a1 4294967295) * (andK .u64 a2 4294967295))) 32))) 32))) + (shrK .u64 (IntKind.u64.wrap ((andK .u64 (IntKind.u64.wrap ((IntKind.u64.wrap ((shrK .u64 a1 32) * (andK .u64 a2 4294967295))) + (shrK .u64 (IntKind.u64.wrap ((andK .u64 a1 4294967295) * (andK .u64 a2 4294967295))) 32))) 4294967295) + (IntKind.u64.wrap ((andK .u64 a1 4294967295) * (shrK .u64 a2 32))))) 32)))))], [], 0⟩ (by kernel_rfl) (leB rfl) ?_
  refine w_reg ⟨[(4, .s (.int .u64 (IntKind.u64.wrap ((IntKind.u64.wrap ((IntKind.u64.wrap ((shrK .u64 a1 32) * (shrK .u64 a2 32))) + (shrK .u64 (IntKind.u64.wrap ((IntKind.u64.wrap ((shrK .u64 a1 32) * (andK .u64 a2 4294967295))) + (shrK .u64 (IntKind.u64.wrap ((andK .u64 a1 4294967295) * (andK .u64 a2 4294967295))) 32))) 32))) + (shrK .u64 (IntKind.u64.wrap ((andK .u64 (IntKind.u64.wrap ((IntKind.u64.wrap ((shrK .u64 a1 32) * (andK .u64 a2 4294967295))) + (shrK .u64 (IntKind.u64.wrap ((andK .u64 a1 4294967295) * (andK .u64 a2 4294967295))) 32))) 4294967295) + (IntKind.u64.wrap ((andK .u64 a1 4294967295) * (shrK .u64 a2 32))))) 32))))), (5, .s (.int .u64 (IntKind.u64.wrap (a1 * a2))))], [], 0⟩ (by kernel_rfl) (leB rfl) ?_
  refine w_ret ?_
  obtain rfl := ((Option.some.inj h).symm).symm
  exact ret_leaf (.inl rfl) ⟨[(4, .s (.int .u64 (IntKind.u64.wrap ((IntKind.u64.wrap ((IntKind.u64.wrap ((shrK .u64 a1 32) * (shrK .u64 a2 32))) + (shrK .u64 (IntKind.u64.wrap ((IntKind.u64.wrap ((shrK .u64 a1 32) * (andK .u64 a2 4294967295))) + (shrK .u64 (IntKind.u64.wrap ((andK .u64 a1 4294967295) * (andK .u64 a2 4294967295))) 32))) 32))) + (shrK .u64 (IntKind.u64.wrap ((andK .u64 (IntKind.u64.wrap ((IntKind.u64.wrap ((shrK .u64 a1 32) * (andK .u64 a2 4294967295))) + (shrK .u64 (IntKind.u64.wrap ((andK .u64 a1 4294967295) * (andK .u64 a2 4294967295))) 32))) 4294967295) + (IntKind.u64.wrap ((andK .u64 a1 4294967295) * (shrK .u64 a2 32))))) 32))))), (5, .s (.int .u64 (IntKind.u64.wrap (a1 * a2))))], [], 0⟩ (to_ren [] (leB rfl) (by kernel_rfl) (by kernel_rfl) (renE_of (by kernel_rfl) (by kernel_rfl)) trivial) [.s (.int .u64 (IntKind.u64.wrap ((IntKind.u64.wrap ((IntKind.u64.wrap ((shrK .u64 a1 32) * (shrK .u64 a2 32))) + (shrK .u64 (IntKind.u64.wrap ((IntKind.u64.wrap ((shrK .u64 a1 32) * (andK .u64 a2 4294967295))) + (shrK .u64 (IntKind.u64.wrap ((andK .u64 a1 4294967295) * (andK .u64 a2 4294967295))) 32))) 32))) + (shrK .u64 (IntKind.u64.wrap ((andK .u64 (IntKind.u64.wrap ((IntKind.u64.wrap ((shrK .u64 a1 32) * (andK .u64 a2 4294967295))) + (shrK .u64 (IntKind.u64.wrap ((andK .u64 a1 4294967295) * (andK .u64 a2 4294967295))) 32))) 4294967295) + (IntKind.u64.wrap ((andK .u64 a1 4294967295) * (shrK .u64 a2 32))))) 32)))), .s (.int .u64 (IntKind.u64.wrap (a1 * a2)))] (by kernel_rfl) (by kernel_rfl) (leB rfl) (by kernel_rfl) trivial
/-- estoppel/ratio.product -/
def g_ratio_product (a1 : D.Ratio) (a2 : Int) (a3 : Int) : Option (D.Ratio × Int) :=
  (g_ratio_magnitude a1.Num).bind fun x_1303 =>
  (g_ratio_magnitude a1.Den).bind fun x_1305 =>
  (g_ratio_magnitude a2).bind fun x_1307 =>
  (g_ratio_magnitude a3).bind fun x_1309 =>
  (g_ratio_common [x_1303, x_1309]).bind fun x_1316 =>
  (g_ratio_common [x_1307, x_1305]).bind fun x_1318 =>
  (quoO .u64 x_1303 x_1316).bind fun x_1337 =>
  (quoO .u64 x_1307 x_1318).bind fun x_1341 =>
  (g_bits_Mul64 x_1337 x_1341).bind fun x_1343 =>
  (quoO .u64 x_1305 x_1318).bind fun x_1362 =>
  (quoO .u64 x_1309 x_1316).bind fun x_1366 =>
  (g_bits_Mul64 x_1362 x_1366).bind fun x_1368 =>
  bindF (ρ := Bool) (
  if (x_1343.1 != 0) = true then
  some (.inl true)
  else
  some (.inl (x_1368.1 != 0))) (fun (e_1371 : Bool) =>
  if e_1371 = true then
  some ((D.Ratio.mk 0 0), 2)
  else
  (g_ratio_reduced (!((decide (a1.Num < 0)) == (!((decide (a2 < 0)) == (decide (a3 < 0)))))) x_1343.2 x_1368.2).bind fun x_1381 =>
  some (x_1381.1, x_1381.2))
set_option maxHeartbeats 4000000 in
theorem g_ratio_product_ok {a1 : D.Ratio} {a2 : Int} {a3 : Int} {res : D.Ratio × Int} (h : g_ratio_product a1 a2 a3 = some res) : SpecK Tryd.prog [] 61 [.agg (cs_Ratio a1), I a2, I a3] [] 0 (.tup [.agg (cs_Ratio res.1), I res.2]) [] 0 := by
  refine ⟨spec_of_wp Tryd.func61 (by kernel_rfl) rfl Tryd.ntmps61 (by rw [Tryd.results61]) (leB rfl) ?_, by kernel_rfl, trivial, by kernel_rfl, trivial, by kernel_rfl⟩
  unfold g_ratio_product at h
  refine w_reg ⟨[(1, I a2), (2, I a3), (3, .ip (cs_Ratio a1)), (6, .ptr 0 0)], [(0, ⟨31, 0, [I 0, I 0]⟩)], 1⟩ (by kernel_rfl) (leB rfl) ?_
  refine w_seq (fun K hK_1302 => w_mix0 (by kernel_rfl) (by kernel_rfl) ?_)
  refine mm_run 0 2 rfl (by kernel_rfl) ?_
  obtain ⟨x_1303, h_1304, h⟩ := bind_some' h
  refine mm_one 2 (.call ⟨.value (.func 45), #[(.tmp 19)], #[3]⟩) (some 20) (by kernel_rfl) (by kernel_rfl) (oH_callP (g_ratio_magnitude_ok h_1304) (by kernel_rfl) rfl) ?_
  refine mm_run 3 5 rfl (by kernel_rfl) ?_
  obtain ⟨x_1305, h_1306, h⟩ := bind_some' h
  refine mm_one 5 (.call ⟨.value (.func 45), #[(.tmp 22)], #[3]⟩) (some 23) (by kernel_rfl) (by kernel_rfl) (oH_callP (g_ratio_magnitude_ok h_1306) (by kernel_rfl) rfl) ?_
  refine mm_run 6 7 rfl (by kernel_rfl) ?_
  obtain ⟨x_1307, h_1308, h⟩ := bind_some' h
  refine mm_one 7 (.call ⟨.value (.func 45), #[(.tmp 24)], #[3]⟩) (some 25) (by kernel_rfl) (by kernel_rfl) (oH_callP (g_ratio_magnitude_ok h_1308) (by kernel_rfl) rfl) ?_
  refine mm_run 8 9 rfl (by kernel_rfl) ?_
  obtain ⟨x_1309, h_1310, h⟩ := bind_some' h
  refine mm_one 9 (.call ⟨.value (.func 45), #[(.tmp 26)], #[3]⟩) (some 27) (by kernel_rfl) (by kernel_rfl) (oH_callP (g_ratio_magnitude_ok h_1310) (by kernel_rfl) rfl) ?_
  refine mix_fin' hK_1302 ⟨[(1, I a2), (2, I a3), (3, .ip (cs_Ratio a1)), (6, .ptr 0 0), (8, .s (.int .u64 x_1303)), (9, .s (.int .u64 x_1305)), (10, .s (.int .u64 x_1307)), (11, .s (.int .u64 x_1309))], [(0, ⟨31, 0, [I 0, I 0]⟩)], 1⟩ (by kernel_rfl) (leB rfl) ?_
  refine w_seq (fun K hK_1315 => w_reg0 ?_)
  refine dd_run 0 3 rfl (by kernel_rfl) ?_
  obtain ⟨x_1316, h_1317, h⟩ := bind_some' h
  refine dd_one 3 (.call ⟨.value (.func 46), #[(.tmp 30)], #[79]⟩) (some 31) (by kernel_rfl) (o_callP (g_ratio_common_ok h_1317) (by kernel_rfl) rfl) ?_
  refine dd_run 4 7 rfl (by kernel_rfl) ?_
  obtain ⟨x_1318, h_1319, h⟩ := bind_some' h
  refine dd_one 7 (.call ⟨.value (.func 46), #[(.tmp 34)], #[79]⟩) (some 35) (by kernel_rfl) (o_callP (g_ratio_common_ok h_1319) (by kernel_rfl) rfl) ?_
  refine ops_fin' hK_1315 ⟨[(1, I a2), (2, I a3), (3, .ip (cs_Ratio a1)), (6, .ptr 0 0), (8, .s (.int .u64 x_1303)), (9, .s (.int .u64 x_1305)), (10, .s (.int .u64 x_1307)), (11, .s (.int .u64 x_1309)), (12, .s (.int .u64 x_1316)), (13, .s (.int .u64 x_1318))], [(0, ⟨31, 0, [I 0, I 0]⟩)], 1⟩ (by kernel_rfl) (leB rfl) ?_
  refine w_seq (fun K hK_1334 => w_mix0 (by kernel_rfl) (by kernel_rfl) ?_)
  refine mm_run 0 2 rfl (by kernel_rfl) ?_
  obtain ⟨x_1337, h_1338, h⟩ := bind_some' h
  refine mm_one 2 (.binOp .quo 69 (.tmp 37) (.tmp 38) 69) (some 39) (by kernel_rfl) (by kernel_rfl) (oH_pure (.s (.int .u64 x_1337)) (ev_quo h_1338 (by kernel_rfl) (by kernel_rfl)) rfl) ?_
  refine mm_run 3 5 rfl (by kernel_rfl) ?_
  obtain ⟨x_1341, h_1342, h⟩ := bind_some' h
  refine mm_one 5 (.binOp .quo 69 (.tmp 40) (.tmp 41) 69) (some 42) (by kernel_rfl) (by kernel_rfl) (oH_pure (.s (.int .u64 x_1341)) (ev_quo h_1342 (by kernel_rfl) (by kernel_rfl)) rfl) ?_
  obtain ⟨x_1343, h_1344, h⟩ := bind_some' h
  refine mm_one 6 (.call ⟨.value (.func 62), #[(.tmp 39), (.tmp 42)], #[69, 69]⟩) (some 43) (by kernel_rfl) (by kernel_rfl) (oH_callP (g_bits_Mul64_ok h_1344) (by kernel_rfl) rfl) ?_
  refine mix_fin' hK_1334 ⟨[(1, I a2), (2, I a3), (3, .ip (cs_Ratio a1)), (6, .ptr 0 0), (9, .s (.int .u64 x_1305)), (11, .s (.int .u64 x_1309)), (12, .s (.int .u64 x_1316)), (13, .s (.int .u64 x_1318)), (14, .s (.int .u64 x_1343.1)), (15, .s (.int .u64 x_1343.2))], [(0, ⟨31, 0, [I 0, I 0]⟩)], 1⟩ (by kernel_rfl) (leB rfl) ?_
  refine w_seq (fun K hK_1359 => w_mix0 (by kernel_rfl) (by kernel_rfl) ?_)
  refine mm_run 0 2 rfl (by kernel_rfl) ?_
  obtain ⟨x_1362, h_1363, h⟩ := bind_some' h
  refine mm_one 2 (.binOp .quo 69 (.tmp 47) (.tmp 48) 69) (some 49) (by kernel_rfl) (by kernel_rfl) (oH_pure (.s (.int .u64 x_1362)) (ev_quo h_1363 (by kernel_rfl) (by kernel_rfl)) rfl) ?_
  refine mm_run 3 5 rfl (by kernel_rfl) ?_
  obtain ⟨x_1366, h_1367, h⟩ := bind_some' h
  refine mm_one 5 (.binOp .quo 69 (.tmp 50) (.tmp 51) 69) (some 52) (by kernel_rfl) (by kernel_rfl) (oH_pure (.s (.int .u64 x_1366)) (ev_quo h_1367 (by kernel_rfl) (by kernel_rfl)) rfl) ?_
  obtain ⟨x_1368, h_1369, h⟩ := bind_some' h
  refine mm_one 6 (.call ⟨.value (.func 62), #[(.tmp 49), (.tmp 52)], #[69, 69]⟩) (some 53) (by kernel_rfl) (by kernel_rfl) (oH_callP (g_bits_Mul64_ok h_1369) (by kernel_rfl) rfl) ?_
  refine mix_fin' hK_1359 ⟨[(1, I a2), (2, I a3), (3, .ip (cs_Ratio a1)), (6, .ptr 0 0), (14, .s (.int .u64 x_1343.1)), (15, .s (.int .u64 x_1343.2)), (16, .s (.int .u64 x_1368.1)), (17, .s (.int .u64 x_1368.2))], [(0, ⟨31, 0, [I 0, I 0]⟩)], 1⟩ (by kernel_rfl) (leB rfl) ?_
  refine w_assoc ?_
  refine w_cut h (fun (e_1371 : Bool) => ⟨[(1, I a2), (2, I a3), (3, .ip (cs_Ratio a1)), (6, .ptr 0 0), (15, .s (.int .u64 x_1343.2)), (17, .s (.int .u64 x_1368.2)), (61, B e_1371)], [(0, ⟨31, 0, [I 0, I 0]⟩)], 1⟩) (fun o h h_1372 K hK_1373 => ?_) (fun e_1371 h => ?_)
  · refine w_reg0 ?_
    refine dd_run 0 3 rfl (by kernel_rfl) ?_
    refine ite_both h (fun h_1374 h => ?_) (fun h_1374 h => ?_)
    · refine dd_skip 3 5 2 false rfl (b := (x_1343.1 != 0)) (by kernel_rfl) h_1374 (by kernel_rfl) ?_
      refine dd_one 5 (.pick (.tmp 58) (.const (.bool true)) (.tmp 60)) (some 61) (by kernel_rfl) (o_pure (B true) (ev_pickT h_1374 (by kernel_rfl) (by kernel_rfl)) rfl) ?_
      refine dd_nil 6 rfl ?_
      exact hK_1373 _ _ (Option.some.inj h).symm (to_ren [] (leB rfl) (by kernel_rfl) (by kernel_rfl) (renE_of (by kernel_rfl) (by kernel_rfl)) ⟨reRn (by kernel_rfl) (leB rfl) (by kernel_rfl), trivial⟩)
    · refine dd_runG 3 5 2 false rfl (b := (x_1343.1 != 0)) (by kernel_rfl) h_1374 (by kernel_rfl) ?_
      refine dd_one 5 (.pick (.tmp 58) (.const (.bool true)) (.tmp 60)) (some 61) (by kernel_rfl) (o_pure (B (x_1368.1 != 0)) (ev_pickF h_1374 (by kernel_rfl) (by kernel_rfl)) rfl) ?_
      refine dd_nil 6 rfl ?_
      exact hK_1373 _ _ (Option.some.inj h).symm (to_ren [] (leB rfl) (by kernel_rfl) (by kernel_rfl) (renE_of (by kernel_rfl) (by kernel_rfl)) ⟨reRn (by kernel_rfl) (leB rfl) (by kernel_rfl), trivial⟩)
  · refine w_seq (fun K hK_1376 => ?_)
    refine w_ite h (by kernel_rfl) (fun h_1377 h => ?_) (fun h_1377 h => ?_)
    · refine w_reg ⟨[(6, .ptr 0 0), (7, I 2)], [(0, ⟨31, 0, [I 0, I 0]⟩)], 1⟩ (by kernel_rfl) (leB rfl) ?_
      refine w_ret ?_
      obtain rfl := ((Option.some.inj h).symm).symm
      exact ret_leaf (.inl rfl) ⟨[(6, .ptr 0 0), (7, I 2)], [(0, ⟨31, 0, (cs_Ratio (D.Ratio.mk 0 0))⟩)], 1⟩ (to_ren [] (leB rfl) (by kernel_rfl) (by kernel_rfl) (renE_of (by kernel_rfl) (by kernel_rfl)) ⟨reRn (by kernel_rfl) (leB rfl) (by kernel_rfl), trivial⟩) [.agg (cs_Ratio (D.Ratio.mk 0 0)), I 2] (by kernel_rfl) (by kernel_rfl) (leB rfl) (by kernel_rfl) trivial
    · refine w_skip ?_
      refine hK_1376 _ ⟨[(1, I a2), (2, I a3), (3, .ip (cs_Ratio a1)), (6, .ptr 0 0), (15, .s (.int .u64 x_1343.2)), (17, .s (.int .u64 x_1368.2))], [(0, ⟨31, 0, [I 0, I 0]⟩)], 1⟩ (to_trim (by kernel_rfl) (leB rfl)) ?_
      refine w_seq (fun K hK_1380 => w_reg0 ?_)
      refine dd_run 0 11 rfl (by kernel_rfl) ?_
      obtain ⟨x_1381, h_1382, h⟩ := bind_some' h
      refine dd_one 11 (.call ⟨.value (.func 56), #[(.tmp 71), (.tmp 72), (.tmp 73)], #[4, 69, 69]⟩) (some 74) (by kernel_rfl) (o_callP (g_ratio_reduced_ok h_1382) (by kernel_rfl) rfl) ?_
      refine ops_fin' hK_1380 ⟨[(6, .ptr 0 0), (7, I x_1381.2)], [(0, ⟨31, 0, (cs_Ratio x_1381.1)⟩)], 1⟩ (by kernel_rfl) (leB rfl) ?_
      refine w_ret ?_
      obtain rfl := ((Option.some.inj h).symm).symm
      exact ret_leaf (.inl rfl) ⟨[(6, .ptr 0 0), (7, I x_1381.2)], [(0, ⟨31, 0, (cs_Ratio x_1381.1)⟩)], 1⟩ (to_ren [] (leB rfl) (by kernel_rfl) (by kernel_rfl) (renE_of (by kernel_rfl) (by kernel_rfl)) ⟨reRn (by kernel_rfl) (leB rfl) (by kernel_rfl), trivial⟩) [.agg (cs_Ratio x_1381.1), I x_1381.2] (by kernel_rfl) (by kernel_rfl) (leB rfl) (by kernel_rfl) trivial
/-- estoppel/ratio.Mul$1 -/
def g_ratio_Mul_1 (a1 : D.Ratio) (a2 : D.Ratio) : Option (D.Ratio × Int) :=
  (g_ratio_product a1 a2.Num a2.Den).bind fun x_1391 =>
  some (x_1391.1, x_1391.2)
set_option maxHeartbeats 4000000 in
theorem g_ratio_Mul_1_ok {a1 : D.Ratio} {a2 : D.Ratio} {res : D.Ratio × Int} (h : g_ratio_Mul_1 a1 a2 = some res) : SpecK Tryd.prog [] 60 [.ip (cs_Ratio a1), .ip (cs_Ratio a2)] [] 0 (.tup [.agg (cs_Ratio res.1), I res.2]) [] 0 := by
  refine ⟨spec_of_wp Tryd.func60 (by kernel_rfl) rfl Tryd.ntmps60 (by rw [Tryd.results60]) (leB rfl) ?_, by kernel_rfl, trivial, by kernel_rfl, trivial, by kernel_rfl⟩
  unfold g_ratio_Mul_1 at h
  refine w_reg ⟨[(0, .ip (cs_Ratio a1)), (1, .ip (cs_Ratio a2)), (2, .ptr 0 0)], [(0, ⟨31, 0, [I 0, I 0]⟩)], 1⟩ (by kernel_rfl) (leB rfl) ?_
  refine w_seq (fun K hK_1390 => w_reg0 ?_)
  refine dd_run 0 5 rfl (by kernel_rfl) ?_
  obtain ⟨x_1391, h_1392, h⟩ := bind_some' h
  refine dd_one 5 (.call ⟨.value (.func 61), #[(.tmp 4), (.tmp 6), (.tmp 8)], #[31, 3, 3]⟩) (some 9) (by kernel_rfl) (o_callP (g_ratio_product_ok h_1392) (by kernel_rfl) rfl) ?_
  refine ops_fin' hK_1390 ⟨[(2, .ptr 0 0), (3, I x_1391.2)], [(0, ⟨31, 0, (cs_Ratio x_1391.1)⟩)], 1⟩ (by kernel_rfl) (leB rfl) ?_
  refine w_ret ?_
  obtain rfl := ((Option.some.inj h).symm).symm
  exact ret_leaf (.inl rfl) ⟨[(2, .ptr 0 0), (3, I x_1391.2)], [(0, ⟨31, 0, (cs_Ratio x_1391.1)⟩)], 1⟩ (to_ren [] (leB rfl) (by kernel_rfl) (by kernel_rfl) (renE_of (by kernel_rfl) (by kernel_rfl)) ⟨reRn (by kernel_rfl) (leB rfl) (by kernel_rfl), trivial⟩) [.agg (cs_Ratio x_1391.1), I x_1391.2] (by kernel_rfl) (by kernel_rfl) (leB rfl) (by kernel_rfl) trivial
/-- estoppel/ratio.on -/
def g_ratio_on_Mul_1 (a1 : D.Ratio) (a2 : D.Ratio) (a3 : D.Ratio) (a4 : D.Ratio) : Option (D.Ratio × Int) :=
  bindF (ρ := Bool) (
  (g_ratio_Valid a1).bind fun x_1406 =>
  if (!x_1406) = true then
  some (.inl true)
  else
  (g_ratio_Valid a2).bind fun x_1409 =>
  some (.inl (!x_1409))) (fun (e_1403 : Bool) =>
  if e_1403 = true then
  some ((D.Ratio.mk 0 0), 1)
  else
  (g_ratio_Mul_1 a3 a4).bind fun x_1417 =>
  some (x_1417.1, x_1417.2))
set_option maxHeartbeats 4000000 in
theorem g_ratio_on_Mul_1_ok {a1 : D.Ratio} {a2 : D.Ratio} {a3 : D.Ratio} {a4 : D.Ratio} {res : D.Ratio × Int} (h : g_ratio_on_Mul_1 a1 a2 a3 a4 = some res) : SpecK Tryd.prog [] 47 [.agg (cs_Ratio a1), .agg (cs_Ratio a2), .fn 60 [.ip (cs_Ratio a3), .ip (cs_Ratio a4)]] [] 0 (.tup [.agg (cs_Ratio res.1), I res.2]) [] 0 := by
  refine ⟨spec_of_wp Tryd.func47 (by kernel_rfl) rfl Tryd.ntmps47 (by rw [Tryd.results47]) (leB rfl) ?_, by kernel_rfl, trivial, by kernel_rfl, trivial, by kernel_rfl⟩
  unfold g_ratio_on_Mul_1 at h
  refine w_reg ⟨[(2, .fn 60 [.ip (cs_Ratio a3), .ip (cs_Ratio a4)]), (3, .ip (cs_Ratio a1)), (4, .ip (cs_Ratio a2)), (6, .ptr 0 0)], [(0, ⟨31, 0, [I 0, I 0]⟩)], 1⟩ (by kernel_rfl) (leB rfl) ?_
  refine w_assoc ?_
  refine w_cut h (fun (e_1403 : Bool) => ⟨[(2, .fn 60 [.ip (cs_Ratio a3), .ip (cs_Ratio a4)]), (6, .ptr 0 0), (15, B e_1403)], [(0, ⟨31, 0, [I 0, I 0]⟩)], 1⟩) (fun o h h_1404 K hK_1405 => ?_) (fun e_1403 h => ?_)
  · refine w_reg0 ?_
    refine dd_run 0 1 rfl (by kernel_rfl) ?_
    obtain ⟨x_1406, h_1407, h⟩ := bind_some' h
    refine dd_one 1 (.call ⟨.value (.func 24), #[(.tmp 8)], #[31]⟩) (some 9) (by kernel_rfl) (o_callP (g_ratio_Valid_ok h_1407) (by kernel_rfl) rfl) ?_
    refine dd_run 2 4 rfl (by kernel_rfl) ?_
    refine ite_both h (fun h_1408 h => ?_) (fun h_1408 h => ?_)
    · refine dd_skip 4 7 3 false rfl (b := (!x_1406)) (by kernel_rfl) h_1408 (by kernel_rfl) ?_
      refine dd_one 7 (.pick (.tmp 11) (.const (.bool true)) (.tmp 14)) (some 15) (by kernel_rfl) (o_pure (B true) (ev_pickT h_1408 (by kernel_rfl) (by kernel_rfl)) rfl) ?_
      refine dd_nil 8 rfl ?_
      exact hK_1405 _ _ (Option.some.inj h).symm (to_ren [] (leB rfl) (by kernel_rfl) (by kernel_rfl) (renE_of (by kernel_rfl) (by kernel_rfl)) ⟨reRn (by kernel_rfl) (leB rfl) (by kernel_rfl), trivial⟩)
    · refine dd_runG 4 5 3 false rfl (b := (!x_1406)) (by kernel_rfl) h_1408 (by kernel_rfl) ?_
      obtain ⟨x_1409, h_1410, h⟩ := bind_some' h
      refine dd_oneG 5 (.call ⟨.value (.func 24), #[(.tmp 12)], #[31]⟩) (some 13) 3 false (b := (!x_1406)) (by kernel_rfl) (by kernel_rfl) h_1408 (o_callP (g_ratio_Valid_ok h_1410) (by kernel_rfl) rfl) ?_
      refine dd_runG 6 7 3 false rfl (b := (!x_1406)) (by kernel_rfl) h_1408 (by kernel_rfl) ?_
      refine dd_one 7 (.pick (.tmp 11) (.const (.bool true)) (.tmp 14)) (some 15) (by kernel_rfl) (o_pure (B (!x_1409)) (ev_pickF h_1408 (by kernel_rfl) (by kernel_rfl)) rfl) ?_
      refine dd_nil 8 rfl ?_
      exact hK_1405 _ _ (Option.some.inj h).symm (to_ren [] (leB rfl) (by kernel_rfl) (by kernel_rfl) (renE_of (by kernel_rfl) (by kernel_rfl)) ⟨reRn (by kernel_rfl) (leB rfl) (by kernel_rfl), trivial⟩)
  · refine w_seq (fun K hK_1412 => ?_)
    refine w_ite h (by kernel_rfl) (fun h_1413 h => ?_) (fun h_1413 h => ?_)
    · refine w_reg ⟨[(6, .ptr 0 0), (7, I 1)], [(0, ⟨31, 0, [I 0, I 0]⟩)], 1⟩ (by kernel_rfl) (leB rfl) ?_
      refine w_ret ?_
      obtain rfl := ((Option.some.inj h).symm).symm
      exact ret_leaf (.inl rfl) ⟨[(6, .ptr 0 0), (7, I 1)], [(0, ⟨31, 0, (cs_Ratio (D.Ratio.mk 0 0))⟩)], 1⟩ (to_ren [] (leB rfl) (by kernel_rfl) (by kernel_rfl) (renE_of (by kernel_rfl) (by kernel_rfl)) ⟨reRn (by kernel_rfl) (leB rfl) (by kernel_rfl), trivial⟩) [.agg (cs_Ratio (D.Ratio.mk 0 0)), I 1] (by kernel_rfl) (by kernel_rfl) (leB rfl) (by kernel_rfl) trivial
    · refine w_skip ?_
      refine hK_1412 _ ⟨[(2, .fn 60 [.ip (cs_Ratio a3), .ip (cs_Ratio a4)]), (6, .ptr 0 0)], [(0, ⟨31, 0, [I 0, I 0]⟩)], 1⟩ (to_trim (by kernel_rfl) (leB rfl)) ?_
      refine w_seq (fun K hK_1416 => w_reg0 ?_)
      refine dd_run 0 1 rfl (by kernel_rfl) ?_
      obtain ⟨x_1417, h_1418, h⟩ := bind_some' h
      refine dd_one 1 (.call ⟨.value (.tmp 17), #[], #[]⟩) (some 18) (by kernel_rfl) (o_callP (g_ratio_Mul_1_ok h_1418) (by kernel_rfl) rfl) ?_
      refine ops_fin' hK_1416 ⟨[(6, .ptr 0 0), (7, I x_1417.2)], [(0, ⟨31, 0, (cs_Ratio x_1417.1)⟩)], 1⟩ (by kernel_rfl) (leB rfl) ?_
      refine w_ret ?_
      obtain rfl := ((Option.some.inj h).symm).symm
      exact ret_leaf (.inl rfl) ⟨[(6, .ptr 0 0), (7, I x_1417.2)], [(0, ⟨31, 0, (cs_Ratio x_1417.1)⟩)], 1⟩ (to_ren [] (leB rfl) (by kernel_rfl) (by kernel_rfl) (renE_of (by kernel_rfl) (by kernel_rfl)) ⟨reRn (by kernel_rfl) (leB rfl) (by kernel_rfl), trivial⟩) [.agg (cs_Ratio x_1417.1), I x_1417.2] (by kernel_rfl) (by kernel_rfl) (leB rfl) (by kernel_rfl) trivial
/-- estoppel/ratio.Mul -/
def g_ratio_Mul (a1 : D.Ratio) (a2 : D.Ratio) : Option (D.Ratio × Int) :=
  (g_ratio_on_Mul_1 a1 a2 a1 a2).bind fun x_1427 =>
  some (x_1427.1, x_1427.2)
set_option maxHeartbeats 4000000 in
theorem g_ratio_Mul_ok {a1 : D.Ratio} {a2 : D.Ratio} {res : D.Ratio × Int} (h : g_ratio_Mul a1 a2 = some res) : SpecK Tryd.prog [] 58 [.agg (cs_Ratio a1), .agg (cs_Ratio a2)] [] 0 (.tup [.agg (cs_Ratio res.1), I res.2]) [] 0 := by
  refine ⟨spec_of_wp Tryd.func58 (by kernel_rfl) rfl Tryd.ntmps58 (by rw [Tryd.results58]) (leB rfl) ?_, by kernel_rfl, trivial, by kernel_rfl, trivial, by kernel_rfl⟩
  unfold g_ratio_Mul at h
  refine w_reg ⟨[(2, .ip (cs_Ratio a1)), (3, .ip (cs_Ratio a2)), (4, .ptr 0 0)], [(0, ⟨31, 0, [I 0, I 0]⟩)], 1⟩ (by kernel_rfl) (leB rfl) ?_
  refine w_seq (fun K hK_1426 => w_reg0 ?_)
  refine dd_run 0 3 rfl (by kernel_rfl) ?_
  obtain ⟨x_1427, h_1428, h⟩ := bind_some' h
  refine dd_one 3 (.call ⟨.value (.func 47), #[(.tmp 6), (.tmp 7), (.tmp 8)], #[31, 31, 74]⟩) (some 9) (by kernel_rfl) (o_callP (g_ratio_on_Mul_1_ok h_1428) (by kernel_rfl) rfl) ?_
  refine ops_fin' hK_1426 ⟨[(4, .ptr 0 0), (5, I x_1427.2)], [(0, ⟨31, 0, (cs_Ratio x_1427.1)⟩)], 1⟩ (by kernel_rfl) (leB rfl) ?_
  refine w_ret ?_
  obtain rfl := ((Option.some.inj h).symm).symm
  exact ret_leaf (.inl rfl) ⟨[(4, .ptr 0 0), (5, I x_1427.2)], [(0, ⟨31, 0, (cs_Ratio x_1427.1)⟩)], 1⟩ (to_ren [] (leB rfl) (by kernel_rfl) (by kernel_rfl) (renE_of (by kernel_rfl) (by kernel_rfl)) ⟨reRn (by kernel_rfl) (leB rfl) (by kernel_rfl), trivial⟩) [.agg (cs_Ratio x_1427.1), I x_1427.2] (by kernel_rfl) (by kernel_rfl) (leB rfl) (by kernel_rfl) trivial
/-- estoppel/ratio.Cmp -/
def g_ratio_Cmp (a1 : D.Ratio) (a2 : D.Ratio) : Option (Int) :=
  bindF (ρ := Bool) (
  (g_ratio_Valid a1).bind fun x_1458 =>
  if (!x_1458) = true then
  some (.inl true)
  else
  (g_ratio_Valid a2).bind fun x_1461 =>
  some (.inl (!x_1461))) (fun (e_1455 : Bool) =>
  if e_1455 = true then
  some 0
  else
  if (decide ((IntKind.i64.wrap ((IntKind.i64.wrap (a1.Num * a2.Den)) - (IntKind.i64.wrap (a2.Num * a1.Den)))) < 0)) = true then
  some (-1)
  else
  if (decide ((IntKind.i64.wrap ((IntKind.i64.wrap (a1.Num * a2.Den)) - (IntKind.i64.wrap (a2.Num * a1.Den)))) > 0)) = true then
  some 1
  else
  some 0)
set_option maxHeartbeats 4000000 in
theorem g_ratio_Cmp_ok {a1 : D.Ratio} {a2 : D.Ratio} {res : Int} (h : g_ratio_Cmp a1 a2 = some res) : SpecK Tryd.prog [] 30 [.agg (cs_Ratio a1), .agg (cs_Ratio a2)] [] 0 (I res) [] 0 := by
  refine ⟨spec_of_wp Tryd.func30 (by kernel_rfl) rfl Tryd.ntmps30 (by rw [Tryd.results30]) (leB rfl) ?_, by kernel_rfl, trivial, by kernel_rfl, trivial, by kernel_rfl⟩
  unfold g_ratio_Cmp at h
  refine w_reg ⟨[(2, .ip (cs_Ratio a1)), (3, .ip (cs_Ratio a2))], [], 0⟩ (by kernel_rfl) (leB rfl) ?_
  refine w_assoc ?_
  refine w_cut h (fun (e_1455 : Bool) => ⟨[(2, .ip (cs_Ratio a1)), (3, .ip (cs_Ratio a2)), (13, B e_1455)], [], 0⟩) (fun o h h_1456 K hK_1457 => ?_) (fun e_1455 h => ?_)
  · refine w_reg0 ?_
    refine dd_run 0 1 rfl (by kernel_rfl) ?_
    obtain ⟨x_1458, h_1459, h⟩ := bind_some' h
    refine dd_one 1 (.call ⟨.value (.func 24), #[(.tmp 6)], #[31]⟩) (some 7) (by kernel_rfl) (o_callP (g_ratio_Valid_ok h_1459) (by kernel_rfl) rfl) ?_
    refine dd_run 2 4 rfl (by kernel_rfl) ?_
    refine ite_both h (fun h_1460 h => ?_) (fun h_1460 h => ?_)
    · refine dd_skip 4 7 3 false rfl (b := (!x_1458)) (by kernel_rfl) h_1460 (by kernel_rfl) ?_
      refine dd_one 7 (.pick (.tmp 9) (.const (.bool true)) (.tmp 12)) (some 13) (by kernel_rfl) (o_pure (B true) (ev_pickT h_1460 (by kernel_rfl) (by kernel_rfl)) rfl) ?_
      refine dd_nil 8 rfl ?_
      exact hK_1457 _ _ (Option.some.inj h).symm (to_ren [] (leB rfl) (by kernel_rfl) (by kernel_rfl) (renE_of (by kernel_rfl) (by kernel_rfl)) trivial)
    · refine dd_runG 4 5 3 false rfl (b := (!x_1458)) (by kernel_rfl) h_1460 (by kernel_rfl) ?_
      obtain ⟨x_1461, h_1462, h⟩ := bind_some' h
      refine dd_oneG 5 (.call ⟨.value (.func 24), #[(.tmp 10)], #[31]⟩) (some 11) 3 false (b := (!x_1458)) (by kernel_rfl) (by kernel_rfl) h_1460 (o_callP (g_ratio_Valid_ok h_1462) (by kernel_rfl) rfl) ?_
      refine dd_runG 6 7 3 false rfl (b := (!x_1458)) (by kernel_rfl) h_1460 (by kernel_rfl) ?_
      refine dd_one 7 (.pick (.tmp 9) (.const (.bool true)) (.tmp 12)) (some 13) (by kernel_rfl) (o_pure (B (!x_1461)) (ev_pickF h_1460 (by kernel_rfl) (by kernel_rfl)) rfl) ?_
      refine dd_nil 8 rfl ?_
      exact hK_1457 _ _ (Option.some.inj h).symm (to_ren [] (leB rfl) (by kernel_rfl) (by kernel_rfl) (renE_of (by kernel_rfl) (by kernel_rfl)) trivial)
  · refine w_seq (fun K hK_1464 => ?_)
    refine w_ite h (by kernel_rfl) (fun h_1465 h => ?_) (fun h_1465 h => ?_)
    · refine w_reg ⟨[(4, I 0)], [], 0⟩ (by kernel_rfl) (leB rfl) ?_
      refine w_ret ?_
      obtain rfl := ((Option.some.inj h).symm).symm
      exact ret_leaf (.inl rfl) ⟨[(4, I 0)], [], 0⟩ (to_ren [] (leB rfl) (by kernel_rfl) (by kernel_rfl) (renE_of (by kernel_rfl) (by kernel_rfl)) trivial) [I 0] (by kernel_rfl) (by kernel_rfl) (leB rfl) (by kernel_rfl) trivial
    · refine w_skip ?_
      refine hK_1464 _ ⟨[(2, .ip (cs_Ratio a1)), (3, .ip (cs_Ratio a2))], [], 0⟩ (to_trim (by kernel_rfl) (leB rfl)) ?_
      refine w_assoc ?_
      refine w_reg ⟨[(5, I (IntKind.i64.wrap ((IntKind.i64.wrap (a1.Num * a2.Den)) - (IntKind.i64.wrap (a2.Num * a1.Den)))))], [], 0⟩ (by kernel_rfl) (leB rfl) ?_
      refine w_seq (fun K hK_1468 => ?_)
      refine w_block ?_
      refine w_reg ⟨[(5, I (IntKind.i64.wrap ((IntKind.i64.wrap (a1.Num * a2.Den)) - (IntKind.i64.wrap (a2.Num * a1.Den))))), (25, B (decide ((IntKind.i64.wrap ((IntKind.i64.wrap (a1.Num * a2.Den)) - (IntKind.i64.wrap (a2.Num * a1.Den)))) < 0)))], [], 0⟩ (by kernel_rfl) (leB rfl) ?_
      refine w_ite h (by kernel_rfl) (fun h_1469 h => ?_) (fun h_1469 h => ?_)
      · refine w_reg ⟨[(4, I (-1))], [], 0⟩ (by kernel_rfl) (leB rfl) ?_
        refine w_ret ?_
        obtain rfl := ((Option.some.inj h).symm).symm
        exact ret_leaf (.inl rfl) ⟨[(4, I (-1))], [], 0⟩ (to_ren [] (leB rfl) (by kernel_rfl) (by kernel_rfl) (renE_of (by kernel_rfl) (by kernel_rfl)) trivial) [I (-1)] (by kernel_rfl) (by kernel_rfl) (leB rfl) (by kernel_rfl) trivial
      · refine w_reg ⟨[(28, B (decide ((IntKind.i64.wrap ((IntKind.i64.wrap (a1.Num * a2.Den)) - (IntKind.i64.wrap (a2.Num * a1.Den)))) > 0)))], [], 0⟩ (by kernel_rfl) (leB rfl) ?_
        refine w_ite h (by kernel_rfl) (fun h_1470 h => ?_) (fun h_1470 h => ?_)
        · refine w_reg ⟨[(4, I 1)], [], 0⟩ (by kernel_rfl) (leB rfl) ?_
          refine w_ret ?_
          obtain rfl := ((Option.some.inj h).symm).symm
          exact ret_leaf (.inl rfl) ⟨[(4, I 1)], [], 0⟩ (to_ren [] (leB rfl) (by kernel_rfl) (by kernel_rfl) (renE_of (by kernel_rfl) (by kernel_rfl)) trivial) [I 1] (by kernel_rfl) (by kernel_rfl) (leB rfl) (by kernel_rfl) trivial
        · refine w_skip ?_
          refine hK_1468 _ ⟨[], [], 0⟩ (to_trim (by kernel_rfl) (leB rfl)) ?_
          refine w_reg ⟨[(4, I 0)], [], 0⟩ (by kernel_rfl) (leB rfl) ?_
          refine w_ret ?_
          obtain rfl := ((Option.some.inj h).symm).symm
          exact ret_leaf (.inl rfl) ⟨[(4, I 0)], [], 0⟩ (to_ren [] (leB rfl) (by kernel_rfl) (by kernel_rfl) (renE_of (by kernel_rfl) (by kernel_rfl)) trivial) [I 0] (by kernel_rfl) (by kernel_rfl) (leB rfl) (by kernel_rfl) trivial
/-- estoppel/quantity.divisor -/
def g_quantity_divisor (a1 : Int) (a2 : Int) : Option (Int) :=
  (remO a1 a2).bind fun x_1544 =>
  bindF (ρ := Int) (
  loopO (σ := Int × Int) (fun s_1589 =>
  if (s_1589.1 != 0) = true then
  (remO s_1589.2 s_1589.1).bind fun x_1597 =>
  some (.inl (x_1597, s_1589.1))
  else
  some (.inr (.inl s_1589.2))) (x_1544, a2)) (fun (e_1570 : Int) =>
  some (if (IntKind.i64.wrap (0 - e_1570)) > e_1570 then (IntKind.i64.wrap (0 - e_1570)) else e_1570))
set_option maxHeartbeats 4000000 in
theorem g_quantity_divisor_ok {a1 : Int} {a2 : Int} {res : Int} (h : g_quantity_divisor a1 a2 = some res) : SpecK Tryd.prog [] 57 [I a1, I a2] [] 0 (I res) [] 0 := by
  refine ⟨spec_of_wp Tryd.func57 (by kernel_rfl) rfl Tryd.ntmps57 (by rw [Tryd.results57]) (leB rfl) ?_, by kernel_rfl, trivial, by kernel_rfl, trivial, by kernel_rfl⟩
  unfold g_quantity_divisor at h
  refine w_reg ⟨[(0, I a1), (1, I a2)], [], 0⟩ (by kernel_rfl) (leB rfl) ?_
  refine w_assoc ?_
  refine w_seq (fun K hK_1541 => w_reg0 ?_)
  refine dd_run 0 2 rfl (by kernel_rfl) ?_
  obtain ⟨x_1544, h_1545, h⟩ := bind_some' h
  refine dd_one 2 (.binOp .rem 3 (.tmp 5) (.tmp 6) 3) (some 7) (by kernel_rfl) (o_pure (I x_1544) (ev_rem h_1545 (by kernel_rfl) (by kernel_rfl)) rfl) ?_
  refine ops_fin' hK_1541 ⟨[(0, I x_1544), (1, I a2)], [], 0⟩ (by kernel_rfl) (leB rfl) ?_
  refine w_cut h (fun (e_1570 : Int) => ⟨[(1, I e_1570)], [], 0⟩) (fun o h h_1571 K hK_1572 => ?_) (fun e_1570 h => ?_)
  · refine w_block ?_
    refine w_loopO h (fun (s_1589 : Int × Int) => ⟨[(0, I s_1589.1), (1, I s_1589.2)], [], 0⟩) (to_ren [] (leB rfl) (by kernel_rfl) (by kernel_rfl) (renE_of (by kernel_rfl) (by kernel_rfl)) trivial) (fun s_1589 o h h_1590 K hK_1591 => ?_)
    · refine w_assoc ?_
      refine w_reg ⟨[(0, I s_1589.1), (1, I s_1589.2), (9, B (s_1589.1 != 0))], [], 0⟩ (by kernel_rfl) (leB rfl) ?_
      refine w_seq (fun K hK_1593 => ?_)
      refine w_ite h (by kernel_rfl) (fun h_1594 h => ?_) (fun h_1594 h => ?_)
      · refine w_skip ?_
        refine hK_1593 _ ⟨[(0, I s_1589.1), (1, I s_1589.2)], [], 0⟩ (to_trim (by kernel_rfl) (leB rfl)) ?_
        refine w_block ?_
        refine w_reg0 ?_
        refine dd_run 0 2 rfl (by kernel_rfl) ?_
        obtain ⟨x_1597, h_1598, h⟩ := bind_some' h
        refine dd_one 2 (.binOp .rem 3 (.tmp 10) (.tmp 11) 3) (some 12) (by kernel_rfl) (o_pure (I x_1597) (ev_rem h_1598 (by kernel_rfl) (by kernel_rfl)) rfl) ?_
        refine dd_run 3 6 rfl (by kernel_rfl) ?_
        refine dd_nil 6 rfl ?_
        exact hK_1591 _ _ (Option.some.inj h).symm (to_ren [] (leB rfl) (by kernel_rfl) (by kernel_rfl) (renE_of (by kernel_rfl) (by kernel_rfl)) trivial)
      · refine w_exit ?_
        exact hK_1572 _ _ (h_1590 _ (Option.some.inj h).symm).symm (to_ren [] (leB rfl) (by kernel_rfl) (by kernel_rfl) (renE_of (by kernel_rfl) (by kernel_rfl)) trivial)
  · refine w_reg ⟨[(4, I (if (IntKind.i64.wrap (0 - e_1570)) > e_1570 then (IntKind.i64.wrap (0 - e_1570)) else e_1570))], [], 0⟩ (by kernel_rfl) (leB rfl) ?_
    refine w_ret ?_
    obtain rfl := ((Option.some.inj h).symm).symm
    exact ret_leaf (.inl rfl) ⟨[(4, I (if (IntKind.i64.wrap (0 - e_1570)) > e_1570 then (IntKind.i64.wrap (0 - e_1570)) else e_1570))], [], 0⟩ (to_ren [] (leB rfl) (by kernel_rfl) (by kernel_rfl) (renE_of (by kernel_rfl) (by kernel_rfl)) trivial) [I (if (IntKind.i64.wrap (0 - e_1570)) > e_1570 then (IntKind.i64.wrap (0 - e_1570)) else e_1570)] (by kernel_rfl) (by kernel_rfl) (leB rfl) (by kernel_rfl) trivial
end Go.Proofs.YtdfokoapenhalaaDoor.Ab
