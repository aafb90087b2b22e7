/- Functions of the program as plain functions (printed by wip/dec.py). -/
import Derived.Test.YtdfokoapenhalaaDoorDq4
import Derived.Test.YtdfokoapenhalaaDoorDq6
import Derived.Test.YtdfokoapenhalaaDoorDq12
import Derived.Test.YtdfokoapenhalaaDoorDq13
import Derived.Test.YtdfokoapenhalaaDoorDq14
import Derived.Test.YtdfokoapenhalaaDoorDq15
import Derived.Test.YtdfokoapenhalaaDoorDq16
namespace Go.Proofs.YtdfokoapenhalaaDoor.Ab
open Go Go.RowKit Go.Shelf
/-- estoppel/estoppellaw04.head -/
def g_estoppellaw04_head : Option (Bool) :=
  (g_estoppellaw04_table_own).bind fun x_43301 =>
  (g_quantity_Valid_o [(D.Unit.mk (ByteArray.mk #[116]) 1 0 (D.Ratio.mk 1 1)), (D.Unit.mk (ByteArray.mk #[107, 103]) 1 0 (D.Ratio.mk 1 1000)), (D.Unit.mk (ByteArray.mk #[69, 85, 82]) 2 2 (D.Ratio.mk 1 1)), (D.Unit.mk (ByteArray.mk #[99, 116]) 2 2 (D.Ratio.mk 1 100))]).bind fun x_43306 =>
  (g_estoppellaw04_of 500 1 1).bind fun x_43313 =>
  (g_quantity_Convert_o [(D.Unit.mk (ByteArray.mk #[116]) 1 0 (D.Ratio.mk 1 1)), (D.Unit.mk (ByteArray.mk #[107, 103]) 1 0 (D.Ratio.mk 1 1000)), (D.Unit.mk (ByteArray.mk #[69, 85, 82]) 2 2 (D.Ratio.mk 1 1)), (D.Unit.mk (ByteArray.mk #[99, 116]) 2 2 (D.Ratio.mk 1 100))] x_43313 0).bind fun x_43315 =>
  (g_estoppellaw04_of 1 1 0).bind fun x_43322 =>
  (g_quantity_Convert_o [(D.Unit.mk (ByteArray.mk #[116]) 1 0 (D.Ratio.mk 1 1)), (D.Unit.mk (ByteArray.mk #[107, 103]) 1 0 (D.Ratio.mk 1 1000)), (D.Unit.mk (ByteArray.mk #[69, 85, 82]) 2 2 (D.Ratio.mk 1 1)), (D.Unit.mk (ByteArray.mk #[99, 116]) 2 2 (D.Ratio.mk 1 100))] x_43322 2).bind fun x_43324 =>
  (g_estoppellaw04_of 1 1 4).bind fun x_43331 =>
  (g_quantity_Convert_o [(D.Unit.mk (ByteArray.mk #[116]) 1 0 (D.Ratio.mk 1 1)), (D.Unit.mk (ByteArray.mk #[107, 103]) 1 0 (D.Ratio.mk 1 1000)), (D.Unit.mk (ByteArray.mk #[69, 85, 82]) 2 2 (D.Ratio.mk 1 1)), (D.Unit.mk (ByteArray.mk #[99, 116]) 2 2 (D.Ratio.mk 1 100))] x_43331 2).bind fun x_43333 =>
  (g_estoppellaw04_of 1 1 2).bind fun x_43342 =>
  (g_estoppellaw04_of 5 1 3).bind fun x_43344 =>
  (g_quantity_Sum_o [(D.Unit.mk (ByteArray.mk #[116]) 1 0 (D.Ratio.mk 1 1)), (D.Unit.mk (ByteArray.mk #[107, 103]) 1 0 (D.Ratio.mk 1 1000)), (D.Unit.mk (ByteArray.mk #[69, 85, 82]) 2 2 (D.Ratio.mk 1 1)), (D.Unit.mk (ByteArray.mk #[99, 116]) 2 2 (D.Ratio.mk 1 100))] [x_43342, x_43344] 3).bind fun x_43346 =>
  (g_estoppellaw04_of 1 1 0).bind fun x_43357 =>
  (g_estoppellaw04_of 5 1 1).bind fun x_43359 =>
  (g_estoppellaw04_of 7 1 3).bind fun x_43361 =>
  (g_quantity_Basket_o [(D.Unit.mk (ByteArray.mk #[116]) 1 0 (D.Ratio.mk 1 1)), (D.Unit.mk (ByteArray.mk #[107, 103]) 1 0 (D.Ratio.mk 1 1000)), (D.Unit.mk (ByteArray.mk #[69, 85, 82]) 2 2 (D.Ratio.mk 1 1)), (D.Unit.mk (ByteArray.mk #[99, 116]) 2 2 (D.Ratio.mk 1 100))] [x_43357, x_43359, x_43361]).bind fun x_43363 =>
  (getI [(D.Unit.mk (ByteArray.mk #[116]) 1 0 (D.Ratio.mk 1 1)), (D.Unit.mk (ByteArray.mk #[107, 103]) 1 0 (D.Ratio.mk 1 1000)), (D.Unit.mk (ByteArray.mk #[69, 85, 82]) 2 2 (D.Ratio.mk 1 1)), (D.Unit.mk (ByteArray.mk #[99, 116]) 2 2 (D.Ratio.mk 1 100))] 3).bind fun x_43374 =>
  (g_quantity_Valid (setI [(D.Unit.mk (ByteArray.mk #[116]) 1 0 (D.Ratio.mk 1 1)), (D.Unit.mk (ByteArray.mk #[107, 103]) 1 0 (D.Ratio.mk 1 1000)), (D.Unit.mk (ByteArray.mk #[69, 85, 82]) 2 2 (D.Ratio.mk 1 1)), (D.Unit.mk (ByteArray.mk #[99, 116]) 2 2 (D.Ratio.mk 1 100))] 3 (D.Unit.mk x_43374.Name x_43374.Kind 0 x_43374.Factor))).bind fun x_43379 =>
  bindF (ρ := Bool) (
  if x_43306.2 = true then
  if (x_43306.1 == (-1)) = true then
  if (!x_43379.2) = true then
  if (x_43379.1 == 3) = true then
  (g_estoppellaw04_of 1 2 0).bind fun x_43401 =>
  if (decide (x_43315.1 = x_43401)) = true then
  if (x_43315.2 == 0) = true then
  if (x_43324.2 == 11) = true then
  if (x_43333.2 == 1) = true then
  (g_estoppellaw04_of 105 1 3).bind fun x_43407 =>
  if (decide (x_43346.1 = x_43407)) = true then
  some (.inl (x_43346.2 == 0))
  else
  some (.inl false)
  else
  some (.inl false)
  else
  some (.inl false)
  else
  some (.inl false)
  else
  some (.inl false)
  else
  some (.inl false)
  else
  some (.inl false)
  else
  some (.inl false)
  else
  some (.inl false)) (fun (e_43394 : Bool) =>
  if e_43394 = true then
  if (x_43363.2 == 0) = true then
  if ((x_43363.1.length : Int) == 4) = true then
  (getI x_43363.1 0).bind fun x_43443 =>
  if (decide (x_43443 = (D.Ratio.mk 201 200))) = true then
  (getI x_43363.1 2).bind fun x_43450 =>
  if (decide (x_43450 = (D.Ratio.mk 7 100))) = true then
  (g_quantity_Covers x_43363.1 x_43363.1).bind fun x_43453 =>
  if x_43453 = true then
  (slcO 0 3 x_43363.1.length).bind fun _ =>
  (g_quantity_Covers x_43363.1 ((x_43363.1.drop (0 : Int).toNat).take ((3 : Int).toNat - (0 : Int).toNat))).bind fun x_43459 =>
  some (!x_43459)
  else
  some false
  else
  some false
  else
  some false
  else
  some false
  else
  some false
  else
  some false)
set_option maxHeartbeats 4000000 in
theorem g_estoppellaw04_head_ok {res : Bool} (h : g_estoppellaw04_head = some res) : SpecK Tryd.prog [] 11 [] [] 0 (B res) [] 0 := by
  refine ⟨spec_of_wp Tryd.func11 (by kernel_rfl) rfl Tryd.ntmps11 (by rw [Tryd.results11]) (leB rfl) ?_, by kernel_rfl, trivial, by kernel_rfl, trivial, by kernel_rfl⟩
  unfold g_estoppellaw04_head at h
  refine w_reg ⟨[], [], 0⟩ (by kernel_rfl) (leB rfl) ?_
  refine w_seq (fun K hK_43300 => w_reg0 ?_)
  obtain ⟨x_43301, h_43302, h⟩ := bind_some' h
  refine dd_one 0 (.call ⟨.value (.func 26), #[], #[]⟩) (some 17) (by kernel_rfl) (o_callE [] (g_estoppellaw04_table_own_ok h_43302) (by kernel_rfl) (by kernel_rfl) (by kernel_rfl) rfl) ?_
  refine ops_fin' hK_43300 ⟨[(1, .own 0 [(D.Unit.mk (ByteArray.mk #[116]) 1 0 (D.Ratio.mk 1 1)), (D.Unit.mk (ByteArray.mk #[107, 103]) 1 0 (D.Ratio.mk 1 1000)), (D.Unit.mk (ByteArray.mk #[69, 85, 82]) 2 2 (D.Ratio.mk 1 1)), (D.Unit.mk (ByteArray.mk #[99, 116]) 2 2 (D.Ratio.mk 1 100))].length)], [(0, ⟨42, 5, flat cs_Unit [(D.Unit.mk (ByteArray.mk #[116]) 1 0 (D.Ratio.mk 1 1)), (D.Unit.mk (ByteArray.mk #[107, 103]) 1 0 (D.Ratio.mk 1 1000)), (D.Unit.mk (ByteArray.mk #[69, 85, 82]) 2 2 (D.Ratio.mk 1 1)), (D.Unit.mk (ByteArray.mk #[99, 116]) 2 2 (D.Ratio.mk 1 100))]⟩)], 1⟩ (by kernel_rfl) (leB rfl) ?_
  refine w_seq (fun K hK_43305 => w_reg0 ?_)
  refine dd_run 0 1 rfl (by kernel_rfl) ?_
  obtain ⟨x_43306, h_43307, h⟩ := bind_some' h
  refine dd_one 1 (.call ⟨.value (.func 13), #[(.tmp 19)], #[22]⟩) (some 20) (by kernel_rfl) (o_callE [0] (g_quantity_Valid_o_ok h_43307) (by kernel_rfl) (by kernel_rfl) (by kernel_rfl) rfl) ?_
  refine ops_fin' hK_43305 ⟨[(1, .own 0 [(D.Unit.mk (ByteArray.mk #[116]) 1 0 (D.Ratio.mk 1 1)), (D.Unit.mk (ByteArray.mk #[107, 103]) 1 0 (D.Ratio.mk 1 1000)), (D.Unit.mk (ByteArray.mk #[69, 85, 82]) 2 2 (D.Ratio.mk 1 1)), (D.Unit.mk (ByteArray.mk #[99, 116]) 2 2 (D.Ratio.mk 1 100))].length), (2, I x_43306.1), (3, B x_43306.2)], [(0, ⟨42, 5, flat cs_Unit [(D.Unit.mk (ByteArray.mk #[116]) 1 0 (D.Ratio.mk 1 1)), (D.Unit.mk (ByteArray.mk #[107, 103]) 1 0 (D.Ratio.mk 1 1000)), (D.Unit.mk (ByteArray.mk #[69, 85, 82]) 2 2 (D.Ratio.mk 1 1)), (D.Unit.mk (ByteArray.mk #[99, 116]) 2 2 (D.Ratio.mk 1 100))]⟩)], 1⟩ (by kernel_rfl) (leB rfl) ?_
  refine w_seq (fun K hK_43312 => w_reg0 ?_)
  refine dd_run 0 1 rfl (by kernel_rfl) ?_
  obtain ⟨x_43313, h_43314, h⟩ := bind_some' h
  refine dd_one 1 (.call ⟨.value (.func 27), #[(.const (.int .i64 (500))), (.const (.int .i64 (1))), (.const (.int .i64 (1)))], #[3, 3, 3]⟩) (some 25) (by kernel_rfl) (o_callP (g_estoppellaw04_of_ok h_43314) (by kernel_rfl) rfl) ?_
  obtain ⟨x_43315, h_43316, h⟩ := bind_some' h
  refine dd_one 2 (.call ⟨.value (.func 17), #[(.tmp 24), (.tmp 25), (.const (.int .i64 (0)))], #[22, 33, 3]⟩) (some 26) (by kernel_rfl) (o_callE [0] (g_quantity_Convert_o_ok h_43316) (by kernel_rfl) (by kernel_rfl) (by kernel_rfl) rfl) ?_
  refine ops_fin' hK_43312 ⟨[(1, .own 0 [(D.Unit.mk (ByteArray.mk #[116]) 1 0 (D.Ratio.mk 1 1)), (D.Unit.mk (ByteArray.mk #[107, 103]) 1 0 (D.Ratio.mk 1 1000)), (D.Unit.mk (ByteArray.mk #[69, 85, 82]) 2 2 (D.Ratio.mk 1 1)), (D.Unit.mk (ByteArray.mk #[99, 116]) 2 2 (D.Ratio.mk 1 100))].length), (2, I x_43306.1), (3, B x_43306.2), (4, .ptr 1 0), (5, I x_43315.2)], [(1, ⟨33, 0, (cs_Amount x_43315.1)⟩), (0, ⟨42, 5, flat cs_Unit [(D.Unit.mk (ByteArray.mk #[116]) 1 0 (D.Ratio.mk 1 1)), (D.Unit.mk (ByteArray.mk #[107, 103]) 1 0 (D.Ratio.mk 1 1000)), (D.Unit.mk (ByteArray.mk #[69, 85, 82]) 2 2 (D.Ratio.mk 1 1)), (D.Unit.mk (ByteArray.mk #[99, 116]) 2 2 (D.Ratio.mk 1 100))]⟩)], 2⟩ (by kernel_rfl) (leB rfl) ?_
  refine w_seq (fun K hK_43321 => w_reg0 ?_)
  refine dd_run 0 1 rfl (by kernel_rfl) ?_
  obtain ⟨x_43322, h_43323, h⟩ := bind_some' h
  refine dd_one 1 (.call ⟨.value (.func 27), #[(.const (.int .i64 (1))), (.const (.int .i64 (1))), (.const (.int .i64 (0)))], #[3, 3, 3]⟩) (some 31) (by kernel_rfl) (o_callP (g_estoppellaw04_of_ok h_43323) (by kernel_rfl) rfl) ?_
  obtain ⟨x_43324, h_43325, h⟩ := bind_some' h
  refine dd_one 2 (.call ⟨.value (.func 17), #[(.tmp 30), (.tmp 31), (.const (.int .i64 (2)))], #[22, 33, 3]⟩) (some 32) (by kernel_rfl) (o_callE [0] (g_quantity_Convert_o_ok h_43325) (by kernel_rfl) (by kernel_rfl) (by kernel_rfl) rfl) ?_
  refine ops_fin' hK_43321 ⟨[(1, .own 0 [(D.Unit.mk (ByteArray.mk #[116]) 1 0 (D.Ratio.mk 1 1)), (D.Unit.mk (ByteArray.mk #[107, 103]) 1 0 (D.Ratio.mk 1 1000)), (D.Unit.mk (ByteArray.mk #[69, 85, 82]) 2 2 (D.Ratio.mk 1 1)), (D.Unit.mk (ByteArray.mk #[99, 116]) 2 2 (D.Ratio.mk 1 100))].length), (2, I x_43306.1), (3, B x_43306.2), (4, .ptr 1 0), (5, I x_43315.2), (7, I x_43324.2)], [(2, ⟨33, 0, (cs_Amount x_43324.1)⟩), (0, ⟨42, 5, flat cs_Unit [(D.Unit.mk (ByteArray.mk #[116]) 1 0 (D.Ratio.mk 1 1)), (D.Unit.mk (ByteArray.mk #[107, 103]) 1 0 (D.Ratio.mk 1 1000)), (D.Unit.mk (ByteArray.mk #[69, 85, 82]) 2 2 (D.Ratio.mk 1 1)), (D.Unit.mk (ByteArray.mk #[99, 116]) 2 2 (D.Ratio.mk 1 100))]⟩), (1, ⟨33, 0, (cs_Amount x_43315.1)⟩)], 3⟩ (by kernel_rfl) (leB rfl) ?_
  refine w_seq (fun K hK_43330 => w_reg0 ?_)
  refine dd_run 0 1 rfl (by kernel_rfl) ?_
  obtain ⟨x_43331, h_43332, h⟩ := bind_some' h
  refine dd_one 1 (.call ⟨.value (.func 27), #[(.const (.int .i64 (1))), (.const (.int .i64 (1))), (.const (.int .i64 (4)))], #[3, 3, 3]⟩) (some 37) (by kernel_rfl) (o_callP (g_estoppellaw04_of_ok h_43332) (by kernel_rfl) rfl) ?_
  obtain ⟨x_43333, h_43334, h⟩ := bind_some' h
  refine dd_one 2 (.call ⟨.value (.func 17), #[(.tmp 36), (.tmp 37), (.const (.int .i64 (2)))], #[22, 33, 3]⟩) (some 38) (by kernel_rfl) (o_callE [0] (g_quantity_Convert_o_ok h_43334) (by kernel_rfl) (by kernel_rfl) (by kernel_rfl) rfl) ?_
  refine ops_fin' hK_43330 ⟨[(1, .own 0 [(D.Unit.mk (ByteArray.mk #[116]) 1 0 (D.Ratio.mk 1 1)), (D.Unit.mk (ByteArray.mk #[107, 103]) 1 0 (D.Ratio.mk 1 1000)), (D.Unit.mk (ByteArray.mk #[69, 85, 82]) 2 2 (D.Ratio.mk 1 1)), (D.Unit.mk (ByteArray.mk #[99, 116]) 2 2 (D.Ratio.mk 1 100))].length), (2, I x_43306.1), (3, B x_43306.2), (4, .ptr 1 0), (5, I x_43315.2), (7, I x_43324.2), (9, I x_43333.2)], [(3, ⟨33, 0, (cs_Amount x_43333.1)⟩), (0, ⟨42, 5, flat cs_Unit [(D.Unit.mk (ByteArray.mk #[116]) 1 0 (D.Ratio.mk 1 1)), (D.Unit.mk (ByteArray.mk #[107, 103]) 1 0 (D.Ratio.mk 1 1000)), (D.Unit.mk (ByteArray.mk #[69, 85, 82]) 2 2 (D.Ratio.mk 1 1)), (D.Unit.mk (ByteArray.mk #[99, 116]) 2 2 (D.Ratio.mk 1 100))]⟩), (2, ⟨33, 0, (cs_Amount x_43324.1)⟩), (1, ⟨33, 0, (cs_Amount x_43315.1)⟩)], 4⟩ (by kernel_rfl) (leB rfl) ?_
  refine w_seq (fun K hK_43341 => w_reg0 ?_)
  refine dd_run 0 1 rfl (by kernel_rfl) ?_
  obtain ⟨x_43342, h_43343, h⟩ := bind_some' h
  refine dd_one 1 (.call ⟨.value (.func 27), #[(.const (.int .i64 (1))), (.const (.int .i64 (1))), (.const (.int .i64 (2)))], #[3, 3, 3]⟩) (some 43) (by kernel_rfl) (o_callP (g_estoppellaw04_of_ok h_43343) (by kernel_rfl) rfl) ?_
  obtain ⟨x_43344, h_43345, h⟩ := bind_some' h
  refine dd_one 2 (.call ⟨.value (.func 27), #[(.const (.int .i64 (5))), (.const (.int .i64 (1))), (.const (.int .i64 (3)))], #[3, 3, 3]⟩) (some 44) (by kernel_rfl) (o_callP (g_estoppellaw04_of_ok h_43345) (by kernel_rfl) rfl) ?_
  refine dd_run 3 4 rfl (by kernel_rfl) ?_
  obtain ⟨x_43346, h_43347, h⟩ := bind_some' h
  refine dd_one 4 (.call ⟨.value (.func 19), #[(.tmp 42), (.tmp 45), (.const (.int .i64 (3)))], #[22, 23, 3]⟩) (some 46) (by kernel_rfl) (o_callE [0] (g_quantity_Sum_o_ok h_43347) (by kernel_rfl) (by kernel_rfl) (by kernel_rfl) rfl) ?_
  refine ops_fin' hK_43341 ⟨[(1, .own 0 [(D.Unit.mk (ByteArray.mk #[116]) 1 0 (D.Ratio.mk 1 1)), (D.Unit.mk (ByteArray.mk #[107, 103]) 1 0 (D.Ratio.mk 1 1000)), (D.Unit.mk (ByteArray.mk #[69, 85, 82]) 2 2 (D.Ratio.mk 1 1)), (D.Unit.mk (ByteArray.mk #[99, 116]) 2 2 (D.Ratio.mk 1 100))].length), (2, I x_43306.1), (3, B x_43306.2), (4, .ptr 1 0), (5, I x_43315.2), (7, I x_43324.2), (9, I x_43333.2), (10, .ptr 4 0), (11, I x_43346.2)], [(4, ⟨33, 0, (cs_Amount x_43346.1)⟩), (0, ⟨42, 5, flat cs_Unit [(D.Unit.mk (ByteArray.mk #[116]) 1 0 (D.Ratio.mk 1 1)), (D.Unit.mk (ByteArray.mk #[107, 103]) 1 0 (D.Ratio.mk 1 1000)), (D.Unit.mk (ByteArray.mk #[69, 85, 82]) 2 2 (D.Ratio.mk 1 1)), (D.Unit.mk (ByteArray.mk #[99, 116]) 2 2 (D.Ratio.mk 1 100))]⟩), (3, ⟨33, 0, (cs_Amount x_43333.1)⟩), (2, ⟨33, 0, (cs_Amount x_43324.1)⟩), (1, ⟨33, 0, (cs_Amount x_43315.1)⟩)], 5⟩ (by kernel_rfl) (leB rfl) ?_
  refine w_seq (fun K hK_43356 => w_reg0 ?_)
  refine dd_run 0 1 rfl (by kernel_rfl) ?_
  obtain ⟨x_43357, h_43358, h⟩ := bind_some' h
  refine dd_one 1 (.call ⟨.value (.func 27), #[(.const (.int .i64 (1))), (.const (.int .i64 (1))), (.const (.int .i64 (0)))], #[3, 3, 3]⟩) (some 51) (by kernel_rfl) (o_callP (g_estoppellaw04_of_ok h_43358) (by kernel_rfl) rfl) ?_
  obtain ⟨x_43359, h_43360, h⟩ := bind_some' h
  refine dd_one 2 (.call ⟨.value (.func 27), #[(.const (.int .i64 (5))), (.const (.int .i64 (1))), (.const (.int .i64 (1)))], #[3, 3, 3]⟩) (some 52) (by kernel_rfl) (o_callP (g_estoppellaw04_of_ok h_43360) (by kernel_rfl) rfl) ?_
  obtain ⟨x_43361, h_43362, h⟩ := bind_some' h
  refine dd_one 3 (.call ⟨.value (.func 27), #[(.const (.int .i64 (7))), (.const (.int .i64 (1))), (.const (.int .i64 (3)))], #[3, 3, 3]⟩) (some 53) (by kernel_rfl) (o_callP (g_estoppellaw04_of_ok h_43362) (by kernel_rfl) rfl) ?_
  refine dd_run 4 5 rfl (by kernel_rfl) ?_
  obtain ⟨x_43363, h_43364, h⟩ := bind_some' h
  refine dd_one 5 (.call ⟨.value (.func 21), #[(.tmp 50), (.tmp 54)], #[22, 23]⟩) (some 55) (by kernel_rfl) (o_callE [0] (g_quantity_Basket_o_ok h_43364) (by kernel_rfl) (by kernel_rfl) (by kernel_rfl) rfl) ?_
  refine ops_fin' hK_43356 ⟨[(1, .own 0 [(D.Unit.mk (ByteArray.mk #[116]) 1 0 (D.Ratio.mk 1 1)), (D.Unit.mk (ByteArray.mk #[107, 103]) 1 0 (D.Ratio.mk 1 1000)), (D.Unit.mk (ByteArray.mk #[69, 85, 82]) 2 2 (D.Ratio.mk 1 1)), (D.Unit.mk (ByteArray.mk #[99, 116]) 2 2 (D.Ratio.mk 1 100))].length), (2, I x_43306.1), (3, B x_43306.2), (4, .ptr 1 0), (5, I x_43315.2), (7, I x_43324.2), (9, I x_43333.2), (10, .ptr 4 0), (11, I x_43346.2), (12, sl 2 cs_Ratio x_43363.1), (13, I x_43363.2)], [(0, ⟨42, 5, flat cs_Unit [(D.Unit.mk (ByteArray.mk #[116]) 1 0 (D.Ratio.mk 1 1)), (D.Unit.mk (ByteArray.mk #[107, 103]) 1 0 (D.Ratio.mk 1 1000)), (D.Unit.mk (ByteArray.mk #[69, 85, 82]) 2 2 (D.Ratio.mk 1 1)), (D.Unit.mk (ByteArray.mk #[99, 116]) 2 2 (D.Ratio.mk 1 100))]⟩), (4, ⟨33, 0, (cs_Amount x_43346.1)⟩), (3, ⟨33, 0, (cs_Amount x_43333.1)⟩), (2, ⟨33, 0, (cs_Amount x_43324.1)⟩), (1, ⟨33, 0, (cs_Amount x_43315.1)⟩)], 5⟩ (by kernel_rfl) (leB rfl) ?_
  refine w_seq (fun K hK_43371 => w_reg0 ?_)
  refine dd_run 0 1 rfl (by kernel_rfl) ?_
  obtain ⟨x_43374, h_43375, h⟩ := bind_some' h
  refine dd_one 1 (.indexAddr 22 (.tmp 58) (.const (.int .i64 (3)))) (some 59) (by kernel_rfl) (o_pure (.ptr 0 ((3 : Int).toNat * 5)) (ev_idx_own (N := [(D.Unit.mk (ByteArray.mk #[116]) 1 0 (D.Ratio.mk 1 1)), (D.Unit.mk (ByteArray.mk #[107, 103]) 1 0 (D.Ratio.mk 1 1000)), (D.Unit.mk (ByteArray.mk #[69, 85, 82]) 2 2 (D.Ratio.mk 1 1)), (D.Unit.mk (ByteArray.mk #[99, 116]) 2 2 (D.Ratio.mk 1 100))].length) (e := 42) (k := 5) (ik := .i64) h_43375 rfl (by kernel_rfl) (by kernel_rfl) (by kernel_rfl) (by kernel_rfl)) rfl) ?_
  refine dd_run 2 3 rfl (by kernel_rfl) ?_
  refine dd_one 3 (.store 3 (.tmp 60) (.const (.int .i64 (0)))) none (by kernel_rfl) (o_heap (U) [(0, ⟨42, 5, flat cs_Unit (setI [(D.Unit.mk (ByteArray.mk #[116]) 1 0 (D.Ratio.mk 1 1)), (D.Unit.mk (ByteArray.mk #[107, 103]) 1 0 (D.Ratio.mk 1 1000)), (D.Unit.mk (ByteArray.mk #[69, 85, 82]) 2 2 (D.Ratio.mk 1 1)), (D.Unit.mk (ByteArray.mk #[99, 116]) 2 2 (D.Ratio.mk 1 100))] 3 (D.Unit.mk x_43374.Name x_43374.Kind 0 x_43374.Factor))⟩), (4, ⟨33, 0, (cs_Amount x_43346.1)⟩), (3, ⟨33, 0, (cs_Amount x_43333.1)⟩), (2, ⟨33, 0, (cs_Amount x_43324.1)⟩), (1, ⟨33, 0, (cs_Amount x_43315.1)⟩)] 5 (by kernel_rfl) (hv_store_row (o := (3 : Int).toNat * 5 + 2) (b := 0) (y := I 0) (i := (3 : Int).toNat) (j := 2) (k := 5) (s := 1) (c := cs_Unit) (a' := (D.Unit.mk x_43374.Name x_43374.Kind 0 x_43374.Factor)) (sz := 5) (ty := 42) (fun _ => rfl) (getI_some h_43375).2 rfl (by kernel_rfl) (by kernel_rfl) (by kernel_rfl) (by kernel_rfl) (by kernel_rfl) (by kernel_rfl) (leB rfl) (by kernel_rfl)) rfl) ?_
  refine dd_nil 4 rfl ?_
  refine hK_43371 _ ⟨[(1, sl 5 cs_Unit (setI [(D.Unit.mk (ByteArray.mk #[116]) 1 0 (D.Ratio.mk 1 1)), (D.Unit.mk (ByteArray.mk #[107, 103]) 1 0 (D.Ratio.mk 1 1000)), (D.Unit.mk (ByteArray.mk #[69, 85, 82]) 2 2 (D.Ratio.mk 1 1)), (D.Unit.mk (ByteArray.mk #[99, 116]) 2 2 (D.Ratio.mk 1 100))] 3 (D.Unit.mk x_43374.Name x_43374.Kind 0 x_43374.Factor))), (2, I x_43306.1), (3, B x_43306.2), (4, .ptr 1 0), (5, I x_43315.2), (7, I x_43324.2), (9, I x_43333.2), (10, .ptr 4 0), (11, I x_43346.2), (12, sl 2 cs_Ratio x_43363.1), (13, I x_43363.2)], [(4, ⟨33, 0, (cs_Amount x_43346.1)⟩), (3, ⟨33, 0, (cs_Amount x_43333.1)⟩), (2, ⟨33, 0, (cs_Amount x_43324.1)⟩), (1, ⟨33, 0, (cs_Amount x_43315.1)⟩)], 5⟩ (to_trans (to_frz 1 0 [(D.Unit.mk (ByteArray.mk #[116]) 1 0 (D.Ratio.mk 1 1)), (D.Unit.mk (ByteArray.mk #[107, 103]) 1 0 (D.Ratio.mk 1 1000)), (D.Unit.mk (ByteArray.mk #[69, 85, 82]) 2 2 (D.Ratio.mk 1 1)), (D.Unit.mk (ByteArray.mk #[99, 116]) 2 2 (D.Ratio.mk 1 100))].length (setI [(D.Unit.mk (ByteArray.mk #[116]) 1 0 (D.Ratio.mk 1 1)), (D.Unit.mk (ByteArray.mk #[107, 103]) 1 0 (D.Ratio.mk 1 1000)), (D.Unit.mk (ByteArray.mk #[69, 85, 82]) 2 2 (D.Ratio.mk 1 1)), (D.Unit.mk (ByteArray.mk #[99, 116]) 2 2 (D.Ratio.mk 1 100))] 3 (D.Unit.mk x_43374.Name x_43374.Kind 0 x_43374.Factor)) 42 (k := 5) (c := cs_Unit) (leB rfl) (by kernel_rfl) (by kernel_rfl) (leB rfl) (by simp [setI]) (fun _ => rfl) (fun _ => rfl) (fun _ => rfl)) (to_trim (by kernel_rfl) (leB rfl))) ?_
  refine w_seq (fun K hK_43378 => w_reg0 ?_)
  refine dd_run 0 1 rfl (by kernel_rfl) ?_
  obtain ⟨x_43379, h_43380, h⟩ := bind_some' h
  refine dd_one 1 (.call ⟨.value (.func 13), #[(.tmp 62)], #[22]⟩) (some 63) (by kernel_rfl) (o_callP (g_quantity_Valid_ok h_43380) (by kernel_rfl) rfl) ?_
  refine ops_fin' hK_43378 ⟨[(2, I x_43306.1), (3, B x_43306.2), (4, .ptr 1 0), (5, I x_43315.2), (7, I x_43324.2), (9, I x_43333.2), (10, .ptr 4 0), (11, I x_43346.2), (12, sl 2 cs_Ratio x_43363.1), (13, I x_43363.2), (14, I x_43379.1), (15, B x_43379.2)], [(4, ⟨33, 0, (cs_Amount x_43346.1)⟩), (3, ⟨33, 0, (cs_Amount x_43333.1)⟩), (2, ⟨33, 0, (cs_Amount x_43324.1)⟩), (1, ⟨33, 0, (cs_Amount x_43315.1)⟩)], 5⟩ (by kernel_rfl) (leB rfl) ?_
  refine w_cut h (fun (e_43394 : Bool) => ⟨[(12, sl 2 cs_Ratio x_43363.1), (13, I x_43363.2), (16, B e_43394)], [], 0⟩) (fun o h h_43395 K hK_43396 => ?_) (fun e_43394 h => ?_)
  · refine w_mix0 (by kernel_rfl) (by kernel_rfl) ?_
    refine mm_run 0 2 rfl (by kernel_rfl) ?_
    refine ite_both h (fun h_43397 h => ?_) (fun h_43397 h => ?_)
    · refine mm_oneG 2 (.move (.tmp 2)) (some 68) 1 true (b := x_43306.2) (by kernel_rfl) (by kernel_rfl) (by kernel_rfl) h_43397 (oH_pure (I x_43306.1) (by kernel_rfl) rfl) ?_
      refine mm_oneG 3 (.binOp .eql 3 (.tmp 68) (.const (.int .i64 (-1))) 3) (some 69) 1 true (b := x_43306.2) (by kernel_rfl) (by kernel_rfl) (by kernel_rfl) h_43397 (oH_pure (B (x_43306.1 == (-1))) (by kernel_rfl) rfl) ?_
      refine mm_one 4 (.pick (.tmp 67) (.tmp 69) (.const (.bool false))) (some 70) (by kernel_rfl) (by kernel_rfl) (oH_pure (B (x_43306.1 == (-1))) (ev_pickT h_43397 (by kernel_rfl) (by kernel_rfl)) rfl) ?_
      refine mm_run 5 6 rfl (by kernel_rfl) ?_
      refine ite_both h (fun h_43398 h => ?_) (fun h_43398 h => ?_)
      · refine mm_oneG 6 (.move (.tmp 15)) (some 72) 5 true (b := (x_43306.1 == (-1))) (by kernel_rfl) (by kernel_rfl) (by kernel_rfl) h_43398 (oH_pure (B x_43379.2) (by kernel_rfl) rfl) ?_
        refine mm_oneG 7 (.unOp .not 4 (.tmp 72)) (some 73) 5 true (b := (x_43306.1 == (-1))) (by kernel_rfl) (by kernel_rfl) (by kernel_rfl) h_43398 (oH_pure (B (!x_43379.2)) (by kernel_rfl) rfl) ?_
        refine mm_one 8 (.pick (.tmp 71) (.tmp 73) (.const (.bool false))) (some 74) (by kernel_rfl) (by kernel_rfl) (oH_pure (B (!x_43379.2)) (ev_pickT h_43398 (by kernel_rfl) (by kernel_rfl)) rfl) ?_
        refine mm_run 9 10 rfl (by kernel_rfl) ?_
        refine ite_both h (fun h_43399 h => ?_) (fun h_43399 h => ?_)
        · refine mm_oneG 10 (.move (.tmp 14)) (some 76) 9 true (b := (!x_43379.2)) (by kernel_rfl) (by kernel_rfl) (by kernel_rfl) h_43399 (oH_pure (I x_43379.1) (by kernel_rfl) rfl) ?_
          refine mm_oneG 11 (.binOp .eql 3 (.tmp 76) (.const (.int .i64 (3))) 3) (some 77) 9 true (b := (!x_43379.2)) (by kernel_rfl) (by kernel_rfl) (by kernel_rfl) h_43399 (oH_pure (B (x_43379.1 == 3)) (by kernel_rfl) rfl) ?_
          refine mm_one 12 (.pick (.tmp 75) (.tmp 77) (.const (.bool false))) (some 78) (by kernel_rfl) (by kernel_rfl) (oH_pure (B (x_43379.1 == 3)) (ev_pickT h_43399 (by kernel_rfl) (by kernel_rfl)) rfl) ?_
          refine mm_run 13 14 rfl (by kernel_rfl) ?_
          refine ite_both h (fun h_43400 h => ?_) (fun h_43400 h => ?_)
          · refine mm_oneG 14 (.load 33 (.tmp 4)) (some 80) 13 true (b := (x_43379.1 == 3)) (by kernel_rfl) (by kernel_rfl) (by kernel_rfl) h_43400 (oH_pure (.agg (cs_Amount x_43315.1)) (by kernel_rfl) rfl) ?_
            obtain ⟨x_43401, h_43402, h⟩ := bind_some' h
            refine mm_oneG 15 (.call ⟨.value (.func 27), #[(.const (.int .i64 (1))), (.const (.int .i64 (2))), (.const (.int .i64 (0)))], #[3, 3, 3]⟩) (some 81) 13 true (b := (x_43379.1 == 3)) (by kernel_rfl) (by kernel_rfl) (by kernel_rfl) h_43400 (oH_callP (g_estoppellaw04_of_ok h_43402) (by kernel_rfl) rfl) ?_
            refine mm_oneG 16 (.binOp .eql 33 (.tmp 80) (.tmp 81) 33) (some 82) 13 true (b := (x_43379.1 == 3)) (by kernel_rfl) (by kernel_rfl) (by kernel_rfl) h_43400 (oH_cmp (x := .agg (cs_Amount x_43315.1)) (y := .agg (cs_Amount x_43401)) (decide (x_43315.1 = x_43401)) (by kernel_rfl) (by kernel_rfl) (by kernel_rfl) (eql_Amount x_43315.1 x_43401) rfl) ?_
            refine mm_one 17 (.pick (.tmp 79) (.tmp 82) (.const (.bool false))) (some 83) (by kernel_rfl) (by kernel_rfl) (oH_pure (B (decide (x_43315.1 = x_43401))) (ev_pickT h_43400 (by kernel_rfl) (by kernel_rfl)) rfl) ?_
            refine mm_run 18 19 rfl (by kernel_rfl) ?_
            refine ite_both h (fun h_43403 h => ?_) (fun h_43403 h => ?_)
            · refine mm_oneG 19 (.move (.tmp 5)) (some 85) 18 true (b := (decide (x_43315.1 = x_43401))) (by kernel_rfl) (by kernel_rfl) (by kernel_rfl) h_43403 (oH_pure (I x_43315.2) (by kernel_rfl) rfl) ?_
              refine mm_oneG 20 (.binOp .eql 34 (.tmp 85) (.const (.int .i64 (0))) 34) (some 86) 18 true (b := (decide (x_43315.1 = x_43401))) (by kernel_rfl) (by kernel_rfl) (by kernel_rfl) h_43403 (oH_pure (B (x_43315.2 == 0)) (by kernel_rfl) rfl) ?_
              refine mm_one 21 (.pick (.tmp 84) (.tmp 86) (.const (.bool false))) (some 87) (by kernel_rfl) (by kernel_rfl) (oH_pure (B (x_43315.2 == 0)) (ev_pickT h_43403 (by kernel_rfl) (by kernel_rfl)) rfl) ?_
              refine mm_run 22 23 rfl (by kernel_rfl) ?_
              refine ite_both h (fun h_43404 h => ?_) (fun h_43404 h => ?_)
              · refine mm_oneG 23 (.move (.tmp 7)) (some 89) 22 true (b := (x_43315.2 == 0)) (by kernel_rfl) (by kernel_rfl) (by kernel_rfl) h_43404 (oH_pure (I x_43324.2) (by kernel_rfl) rfl) ?_
                refine mm_oneG 24 (.binOp .eql 34 (.tmp 89) (.const (.int .i64 (11))) 34) (some 90) 22 true (b := (x_43315.2 == 0)) (by kernel_rfl) (by kernel_rfl) (by kernel_rfl) h_43404 (oH_pure (B (x_43324.2 == 11)) (by kernel_rfl) rfl) ?_
                refine mm_one 25 (.pick (.tmp 88) (.tmp 90) (.const (.bool false))) (some 91) (by kernel_rfl) (by kernel_rfl) (oH_pure (B (x_43324.2 == 11)) (ev_pickT h_43404 (by kernel_rfl) (by kernel_rfl)) rfl) ?_
                refine mm_run 26 27 rfl (by kernel_rfl) ?_
                refine ite_both h (fun h_43405 h => ?_) (fun h_43405 h => ?_)
                · refine mm_oneG 27 (.move (.tmp 9)) (some 93) 26 true (b := (x_43324.2 == 11)) (by kernel_rfl) (by kernel_rfl) (by kernel_rfl) h_43405 (oH_pure (I x_43333.2) (by kernel_rfl) rfl) ?_
                  refine mm_oneG 28 (.binOp .eql 34 (.tmp 93) (.const (.int .i64 (1))) 34) (some 94) 26 true (b := (x_43324.2 == 11)) (by kernel_rfl) (by kernel_rfl) (by kernel_rfl) h_43405 (oH_pure (B (x_43333.2 == 1)) (by kernel_rfl) rfl) ?_
                  refine mm_one 29 (.pick (.tmp 92) (.tmp 94) (.const (.bool false))) (some 95) (by kernel_rfl) (by kernel_rfl) (oH_pure (B (x_43333.2 == 1)) (ev_pickT h_43405 (by kernel_rfl) (by kernel_rfl)) rfl) ?_
                  refine mm_run 30 31 rfl (by kernel_rfl) ?_
                  refine ite_both h (fun h_43406 h => ?_) (fun h_43406 h => ?_)
                  · refine mm_oneG 31 (.load 33 (.tmp 10)) (some 97) 30 true (b := (x_43333.2 == 1)) (by kernel_rfl) (by kernel_rfl) (by kernel_rfl) h_43406 (oH_pure (.agg (cs_Amount x_43346.1)) (by kernel_rfl) rfl) ?_
                    obtain ⟨x_43407, h_43408, h⟩ := bind_some' h
                    refine mm_oneG 32 (.call ⟨.value (.func 27), #[(.const (.int .i64 (105))), (.const (.int .i64 (1))), (.const (.int .i64 (3)))], #[3, 3, 3]⟩) (some 98) 30 true (b := (x_43333.2 == 1)) (by kernel_rfl) (by kernel_rfl) (by kernel_rfl) h_43406 (oH_callP (g_estoppellaw04_of_ok h_43408) (by kernel_rfl) rfl) ?_
                    refine mm_oneG 33 (.binOp .eql 33 (.tmp 97) (.tmp 98) 33) (some 99) 30 true (b := (x_43333.2 == 1)) (by kernel_rfl) (by kernel_rfl) (by kernel_rfl) h_43406 (oH_cmp (x := .agg (cs_Amount x_43346.1)) (y := .agg (cs_Amount x_43407)) (decide (x_43346.1 = x_43407)) (by kernel_rfl) (by kernel_rfl) (by kernel_rfl) (eql_Amount x_43346.1 x_43407) rfl) ?_
                    refine mm_one 34 (.pick (.tmp 96) (.tmp 99) (.const (.bool false))) (some 100) (by kernel_rfl) (by kernel_rfl) (oH_pure (B (decide (x_43346.1 = x_43407))) (ev_pickT h_43406 (by kernel_rfl) (by kernel_rfl)) rfl) ?_
                    refine mm_run 35 36 rfl (by kernel_rfl) ?_
                    refine ite_both h (fun h_43409 h => ?_) (fun h_43409 h => ?_)
                    · refine mm_oneG 36 (.move (.tmp 11)) (some 102) 35 true (b := (decide (x_43346.1 = x_43407))) (by kernel_rfl) (by kernel_rfl) (by kernel_rfl) h_43409 (oH_pure (I x_43346.2) (by kernel_rfl) rfl) ?_
                      refine mm_oneG 37 (.binOp .eql 34 (.tmp 102) (.const (.int .i64 (0))) 34) (some 103) 35 true (b := (decide (x_43346.1 = x_43407))) (by kernel_rfl) (by kernel_rfl) (by kernel_rfl) h_43409 (oH_pure (B (x_43346.2 == 0)) (by kernel_rfl) rfl) ?_
                      refine mm_one 38 (.pick (.tmp 101) (.tmp 103) (.const (.bool false))) (some 104) (by kernel_rfl) (by kernel_rfl) (oH_pure (B (x_43346.2 == 0)) (ev_pickT h_43409 (by kernel_rfl) (by kernel_rfl)) rfl) ?_
                      refine mm_run 39 40 rfl (by kernel_rfl) ?_
                      refine mm_nil 40 rfl ?_
                      exact hK_43396 _ _ (Option.some.inj h).symm (to_ren [] (leB rfl) (by kernel_rfl) (by kernel_rfl) (renE_of (by kernel_rfl) (by kernel_rfl)) trivial)
                    · refine mm_skip 36 (.move (.tmp 11)) (some 102) 35 true (b := (decide (x_43346.1 = x_43407))) (by kernel_rfl) (by kernel_rfl) (by kernel_rfl) h_43409 rfl ?_
                      refine mm_skip 37 (.binOp .eql 34 (.tmp 102) (.const (.int .i64 (0))) 34) (some 103) 35 true (b := (decide (x_43346.1 = x_43407))) (by kernel_rfl) (by kernel_rfl) (by kernel_rfl) h_43409 rfl ?_
                      refine mm_one 38 (.pick (.tmp 101) (.tmp 103) (.const (.bool false))) (some 104) (by kernel_rfl) (by kernel_rfl) (oH_pure (B false) (ev_pickF h_43409 (by kernel_rfl) (by kernel_rfl)) rfl) ?_
                      refine mm_run 39 40 rfl (by kernel_rfl) ?_
                      refine mm_nil 40 rfl ?_
                      exact hK_43396 _ _ (Option.some.inj h).symm (to_ren [] (leB rfl) (by kernel_rfl) (by kernel_rfl) (renE_of (by kernel_rfl) (by kernel_rfl)) trivial)
                  · refine mm_skip 31 (.load 33 (.tmp 10)) (some 97) 30 true (b := (x_43333.2 == 1)) (by kernel_rfl) (by kernel_rfl) (by kernel_rfl) h_43406 rfl ?_
                    refine mm_skip 32 (.call ⟨.value (.func 27), #[(.const (.int .i64 (105))), (.const (.int .i64 (1))), (.const (.int .i64 (3)))], #[3, 3, 3]⟩) (some 98) 30 true (b := (x_43333.2 == 1)) (by kernel_rfl) (by kernel_rfl) (by kernel_rfl) h_43406 rfl ?_
                    refine mm_skip 33 (.binOp .eql 33 (.tmp 97) (.tmp 98) 33) (some 99) 30 true (b := (x_43333.2 == 1)) (by kernel_rfl) (by kernel_rfl) (by kernel_rfl) h_43406 rfl ?_
                    refine mm_one 34 (.pick (.tmp 96) (.tmp 99) (.const (.bool false))) (some 100) (by kernel_rfl) (by kernel_rfl) (oH_pure (B false) (ev_pickF h_43406 (by kernel_rfl) (by kernel_rfl)) rfl) ?_
                    refine mm_run 35 36 rfl (by kernel_rfl) ?_
                    refine mm_skip 36 (.move (.tmp 11)) (some 102) 35 true (b := false) (by kernel_rfl) (by kernel_rfl) (by kernel_rfl) rfl rfl ?_
                    refine mm_skip 37 (.binOp .eql 34 (.tmp 102) (.const (.int .i64 (0))) 34) (some 103) 35 true (b := false) (by kernel_rfl) (by kernel_rfl) (by kernel_rfl) rfl rfl ?_
                    refine mm_run 38 40 rfl (by kernel_rfl) ?_
                    refine mm_nil 40 rfl ?_
                    exact hK_43396 _ _ (Option.some.inj h).symm (to_ren [] (leB rfl) (by kernel_rfl) (by kernel_rfl) (renE_of (by kernel_rfl) (by kernel_rfl)) trivial)
                · refine mm_skip 27 (.move (.tmp 9)) (some 93) 26 true (b := (x_43324.2 == 11)) (by kernel_rfl) (by kernel_rfl) (by kernel_rfl) h_43405 rfl ?_
                  refine mm_skip 28 (.binOp .eql 34 (.tmp 93) (.const (.int .i64 (1))) 34) (some 94) 26 true (b := (x_43324.2 == 11)) (by kernel_rfl) (by kernel_rfl) (by kernel_rfl) h_43405 rfl ?_
                  refine mm_one 29 (.pick (.tmp 92) (.tmp 94) (.const (.bool false))) (some 95) (by kernel_rfl) (by kernel_rfl) (oH_pure (B false) (ev_pickF h_43405 (by kernel_rfl) (by kernel_rfl)) rfl) ?_
                  refine mm_run 30 31 rfl (by kernel_rfl) ?_
                  refine mm_skip 31 (.load 33 (.tmp 10)) (some 97) 30 true (b := false) (by kernel_rfl) (by kernel_rfl) (by kernel_rfl) rfl rfl ?_
                  refine mm_skip 32 (.call ⟨.value (.func 27), #[(.const (.int .i64 (105))), (.const (.int .i64 (1))), (.const (.int .i64 (3)))], #[3, 3, 3]⟩) (some 98) 30 true (b := false) (by kernel_rfl) (by kernel_rfl) (by kernel_rfl) rfl rfl ?_
                  refine mm_skip 33 (.binOp .eql 33 (.tmp 97) (.tmp 98) 33) (some 99) 30 true (b := false) (by kernel_rfl) (by kernel_rfl) (by kernel_rfl) rfl rfl ?_
                  refine mm_run 34 36 rfl (by kernel_rfl) ?_
                  refine mm_skip 36 (.move (.tmp 11)) (some 102) 35 true (b := false) (by kernel_rfl) (by kernel_rfl) (by kernel_rfl) rfl rfl ?_
                  refine mm_skip 37 (.binOp .eql 34 (.tmp 102) (.const (.int .i64 (0))) 34) (some 103) 35 true (b := false) (by kernel_rfl) (by kernel_rfl) (by kernel_rfl) rfl rfl ?_
                  refine mm_run 38 40 rfl (by kernel_rfl) ?_
                  refine mm_nil 40 rfl ?_
                  exact hK_43396 _ _ (Option.some.inj h).symm (to_ren [] (leB rfl) (by kernel_rfl) (by kernel_rfl) (renE_of (by kernel_rfl) (by kernel_rfl)) trivial)
              · refine mm_skip 23 (.move (.tmp 7)) (some 89) 22 true (b := (x_43315.2 == 0)) (by kernel_rfl) (by kernel_rfl) (by kernel_rfl) h_43404 rfl ?_
                refine mm_skip 24 (.binOp .eql 34 (.tmp 89) (.const (.int .i64 (11))) 34) (some 90) 22 true (b := (x_43315.2 == 0)) (by kernel_rfl) (by kernel_rfl) (by kernel_rfl) h_43404 rfl ?_
                refine mm_one 25 (.pick (.tmp 88) (.tmp 90) (.const (.bool false))) (some 91) (by kernel_rfl) (by kernel_rfl) (oH_pure (B false) (ev_pickF h_43404 (by kernel_rfl) (by kernel_rfl)) rfl) ?_
                refine mm_run 26 27 rfl (by kernel_rfl) ?_
                refine mm_skip 27 (.move (.tmp 9)) (some 93) 26 true (b := false) (by kernel_rfl) (by kernel_rfl) (by kernel_rfl) rfl rfl ?_
                refine mm_skip 28 (.binOp .eql 34 (.tmp 93) (.const (.int .i64 (1))) 34) (some 94) 26 true (b := false) (by kernel_rfl) (by kernel_rfl) (by kernel_rfl) rfl rfl ?_
                refine mm_run 29 31 rfl (by kernel_rfl) ?_
                refine mm_skip 31 (.load 33 (.tmp 10)) (some 97) 30 true (b := false) (by kernel_rfl) (by kernel_rfl) (by kernel_rfl) rfl rfl ?_
                refine mm_skip 32 (.call ⟨.value (.func 27), #[(.const (.int .i64 (105))), (.const (.int .i64 (1))), (.const (.int .i64 (3)))], #[3, 3, 3]⟩) (some 98) 30 true (b := false) (by kernel_rfl) (by kernel_rfl) (by kernel_rfl) rfl rfl ?_
                refine mm_skip 33 (.binOp .eql 33 (.tmp 97) (.tmp 98) 33) (some 99) 30 true (b := false) (by kernel_rfl) (by kernel_rfl) (by kernel_rfl) rfl rfl ?_
                refine mm_run 34 36 rfl (by kernel_rfl) ?_
                refine mm_skip 36 (.move (.tmp 11)) (some 102) 35 true (b := false) (by kernel_rfl) (by kernel_rfl) (by kernel_rfl) rfl rfl ?_
                refine mm_skip 37 (.binOp .eql 34 (.tmp 102) (.const (.int .i64 (0))) 34) (some 103) 35 true (b := false) (by kernel_rfl) (by kernel_rfl) (by kernel_rfl) rfl rfl ?_
                refine mm_run 38 40 rfl (by kernel_rfl) ?_
                refine mm_nil 40 rfl ?_
                exact hK_43396 _ _ (Option.some.inj h).symm (to_ren [] (leB rfl) (by kernel_rfl) (by kernel_rfl) (renE_of (by kernel_rfl) (by kernel_rfl)) trivial)
            · refine mm_skip 19 (.move (.tmp 5)) (some 85) 18 true (b := (decide (x_43315.1 = x_43401))) (by kernel_rfl) (by kernel_rfl) (by kernel_rfl) h_43403 rfl ?_
              refine mm_skip 20 (.binOp .eql 34 (.tmp 85) (.const (.int .i64 (0))) 34) (some 86) 18 true (b := (decide (x_43315.1 = x_43401))) (by kernel_rfl) (by kernel_rfl) (by kernel_rfl) h_43403 rfl ?_
              refine mm_one 21 (.pick (.tmp 84) (.tmp 86) (.const (.bool false))) (some 87) (by kernel_rfl) (by kernel_rfl) (oH_pure (B false) (ev_pickF h_43403 (by kernel_rfl) (by kernel_rfl)) rfl) ?_
              refine mm_run 22 23 rfl (by kernel_rfl) ?_
              refine mm_skip 23 (.move (.tmp 7)) (some 89) 22 true (b := false) (by kernel_rfl) (by kernel_rfl) (by kernel_rfl) rfl rfl ?_
              refine mm_skip 24 (.binOp .eql 34 (.tmp 89) (.const (.int .i64 (11))) 34) (some 90) 22 true (b := false) (by kernel_rfl) (by kernel_rfl) (by kernel_rfl) rfl rfl ?_
              refine mm_run 25 27 rfl (by kernel_rfl) ?_
              refine mm_skip 27 (.move (.tmp 9)) (some 93) 26 true (b := false) (by kernel_rfl) (by kernel_rfl) (by kernel_rfl) rfl rfl ?_
              refine mm_skip 28 (.binOp .eql 34 (.tmp 93) (.const (.int .i64 (1))) 34) (some 94) 26 true (b := false) (by kernel_rfl) (by kernel_rfl) (by kernel_rfl) rfl rfl ?_
              refine mm_run 29 31 rfl (by kernel_rfl) ?_
              refine mm_skip 31 (.load 33 (.tmp 10)) (some 97) 30 true (b := false) (by kernel_rfl) (by kernel_rfl) (by kernel_rfl) rfl rfl ?_
              refine mm_skip 32 (.call ⟨.value (.func 27), #[(.const (.int .i64 (105))), (.const (.int .i64 (1))), (.const (.int .i64 (3)))], #[3, 3, 3]⟩) (some 98) 30 true (b := false) (by kernel_rfl) (by kernel_rfl) (by kernel_rfl) rfl rfl ?_
              refine mm_skip 33 (.binOp .eql 33 (.tmp 97) (.tmp 98) 33) (some 99) 30 true (b := false) (by kernel_rfl) (by kernel_rfl) (by kernel_rfl) rfl rfl ?_
              refine mm_run 34 36 rfl (by kernel_rfl) ?_
              refine mm_skip 36 (.move (.tmp 11)) (some 102) 35 true (b := false) (by kernel_rfl) (by kernel_rfl) (by kernel_rfl) rfl rfl ?_
              refine mm_skip 37 (.binOp .eql 34 (.tmp 102) (.const (.int .i64 (0))) 34) (some 103) 35 true (b := false) (by kernel_rfl) (by kernel_rfl) (by kernel_rfl) rfl rfl ?_
              refine mm_run 38 40 rfl (by kernel_rfl) ?_
              refine mm_nil 40 rfl ?_
              exact hK_43396 _ _ (Option.some.inj h).symm (to_ren [] (leB rfl) (by kernel_rfl) (by kernel_rfl) (renE_of (by kernel_rfl) (by kernel_rfl)) trivial)
          · refine mm_skip 14 (.load 33 (.tmp 4)) (some 80) 13 true (b := (x_43379.1 == 3)) (by kernel_rfl) (by kernel_rfl) (by kernel_rfl) h_43400 rfl ?_
            refine mm_skip 15 (.call ⟨.value (.func 27), #[(.const (.int .i64 (1))), (.const (.int .i64 (2))), (.const (.int .i64 (0)))], #[3, 3, 3]⟩) (some 81) 13 true (b := (x_43379.1 == 3)) (by kernel_rfl) (by kernel_rfl) (by kernel_rfl) h_43400 rfl ?_
            refine mm_skip 16 (.binOp .eql 33 (.tmp 80) (.tmp 81) 33) (some 82) 13 true (b := (x_43379.1 == 3)) (by kernel_rfl) (by kernel_rfl) (by kernel_rfl) h_43400 rfl ?_
            refine mm_one 17 (.pick (.tmp 79) (.tmp 82) (.const (.bool false))) (some 83) (by kernel_rfl) (by kernel_rfl) (oH_pure (B false) (ev_pickF h_43400 (by kernel_rfl) (by kernel_rfl)) rfl) ?_
            refine mm_run 18 19 rfl (by kernel_rfl) ?_
            refine mm_skip 19 (.move (.tmp 5)) (some 85) 18 true (b := false) (by kernel_rfl) (by kernel_rfl) (by kernel_rfl) rfl rfl ?_
            refine mm_skip 20 (.binOp .eql 34 (.tmp 85) (.const (.int .i64 (0))) 34) (some 86) 18 true (b := false) (by kernel_rfl) (by kernel_rfl) (by kernel_rfl) rfl rfl ?_
            refine mm_run 21 23 rfl (by kernel_rfl) ?_
            refine mm_skip 23 (.move (.tmp 7)) (some 89) 22 true (b := false) (by kernel_rfl) (by kernel_rfl) (by kernel_rfl) rfl rfl ?_
            refine mm_skip 24 (.binOp .eql 34 (.tmp 89) (.const (.int .i64 (11))) 34) (some 90) 22 true (b := false) (by kernel_rfl) (by kernel_rfl) (by kernel_rfl) rfl rfl ?_
            refine mm_run 25 27 rfl (by kernel_rfl) ?_
            refine mm_skip 27 (.move (.tmp 9)) (some 93) 26 true (b := false) (by kernel_rfl) (by kernel_rfl) (by kernel_rfl) rfl rfl ?_
            refine mm_skip 28 (.binOp .eql 34 (.tmp 93) (.const (.int .i64 (1))) 34) (some 94) 26 true (b := false) (by kernel_rfl) (by kernel_rfl) (by kernel_rfl) rfl rfl ?_
            refine mm_run 29 31 rfl (by kernel_rfl) ?_
            refine mm_skip 31 (.load 33 (.tmp 10)) (some 97) 30 true (b := false) (by kernel_rfl) (by kernel_rfl) (by kernel_rfl) rfl rfl ?_
            refine mm_skip 32 (.call ⟨.value (.func 27), #[(.const (.int .i64 (105))), (.const (.int .i64 (1))), (.const (.int .i64 (3)))], #[3, 3, 3]⟩) (some 98) 30 true (b := false) (by kernel_rfl) (by kernel_rfl) (by kernel_rfl) rfl rfl ?_
            refine mm_skip 33 (.binOp .eql 33 (.tmp 97) (.tmp 98) 33) (some 99) 30 true (b := false) (by kernel_rfl) (by kernel_rfl) (by kernel_rfl) rfl rfl ?_
            refine mm_run 34 36 rfl (by kernel_rfl) ?_
            refine mm_skip 36 (.move (.tmp 11)) (some 102) 35 true (b := false) (by kernel_rfl) (by kernel_rfl) (by kernel_rfl) rfl rfl ?_
            refine mm_skip 37 (.binOp .eql 34 (.tmp 102) (.const (.int .i64 (0))) 34) (some 103) 35 true (b := false) (by kernel_rfl) (by kernel_rfl) (by kernel_rfl) rfl rfl ?_
            refine mm_run 38 40 rfl (by kernel_rfl) ?_
            refine mm_nil 40 rfl ?_
            exact hK_43396 _ _ (Option.some.inj h).symm (to_ren [] (leB rfl) (by kernel_rfl) (by kernel_rfl) (renE_of (by kernel_rfl) (by kernel_rfl)) trivial)
        · refine mm_skip 10 (.move (.tmp 14)) (some 76) 9 true (b := (!x_43379.2)) (by kernel_rfl) (by kernel_rfl) (by kernel_rfl) h_43399 rfl ?_
          refine mm_skip 11 (.binOp .eql 3 (.tmp 76) (.const (.int .i64 (3))) 3) (some 77) 9 true (b := (!x_43379.2)) (by kernel_rfl) (by kernel_rfl) (by kernel_rfl) h_43399 rfl ?_
          refine mm_one 12 (.pick (.tmp 75) (.tmp 77) (.const (.bool false))) (some 78) (by kernel_rfl) (by kernel_rfl) (oH_pure (B false) (ev_pickF h_43399 (by kernel_rfl) (by kernel_rfl)) rfl) ?_
          refine mm_run 13 14 rfl (by kernel_rfl) ?_
          refine mm_skip 14 (.load 33 (.tmp 4)) (some 80) 13 true (b := false) (by kernel_rfl) (by kernel_rfl) (by kernel_rfl) rfl rfl ?_
          refine mm_skip 15 (.call ⟨.value (.func 27), #[(.const (.int .i64 (1))), (.const (.int .i64 (2))), (.const (.int .i64 (0)))], #[3, 3, 3]⟩) (some 81) 13 true (b := false) (by kernel_rfl) (by kernel_rfl) (by kernel_rfl) rfl rfl ?_
          refine mm_skip 16 (.binOp .eql 33 (.tmp 80) (.tmp 81) 33) (some 82) 13 true (b := false) (by kernel_rfl) (by kernel_rfl) (by kernel_rfl) rfl rfl ?_
          refine mm_run 17 19 rfl (by kernel_rfl) ?_
          refine mm_skip 19 (.move (.tmp 5)) (some 85) 18 true (b := false) (by kernel_rfl) (by kernel_rfl) (by kernel_rfl) rfl rfl ?_
          refine mm_skip 20 (.binOp .eql 34 (.tmp 85) (.const (.int .i64 (0))) 34) (some 86) 18 true (b := false) (by kernel_rfl) (by kernel_rfl) (by kernel_rfl) rfl rfl ?_
          refine mm_run 21 23 rfl (by kernel_rfl) ?_
          refine mm_skip 23 (.move (.tmp 7)) (some 89) 22 true (b := false) (by kernel_rfl) (by kernel_rfl) (by kernel_rfl) rfl rfl ?_
          refine mm_skip 24 (.binOp .eql 34 (.tmp 89) (.const (.int .i64 (11))) 34) (some 90) 22 true (b := false) (by kernel_rfl) (by kernel_rfl) (by kernel_rfl) rfl rfl ?_
          refine mm_run 25 27 rfl (by kernel_rfl) ?_
          refine mm_skip 27 (.move (.tmp 9)) (some 93) 26 true (b := false) (by kernel_rfl) (by kernel_rfl) (by kernel_rfl) rfl rfl ?_
          refine mm_skip 28 (.binOp .eql 34 (.tmp 93) (.const (.int .i64 (1))) 34) (some 94) 26 true (b := false) (by kernel_rfl) (by kernel_rfl) (by kernel_rfl) rfl rfl ?_
          refine mm_run 29 31 rfl (by kernel_rfl) ?_
          refine mm_skip 31 (.load 33 (.tmp 10)) (some 97) 30 true (b := false) (by kernel_rfl) (by kernel_rfl) (by kernel_rfl) rfl rfl ?_
          refine mm_skip 32 (.call ⟨.value (.func 27), #[(.const (.int .i64 (105))), (.const (.int .i64 (1))), (.const (.int .i64 (3)))], #[3, 3, 3]⟩) (some 98) 30 true (b := false) (by kernel_rfl) (by kernel_rfl) (by kernel_rfl) rfl rfl ?_
          refine mm_skip 33 (.binOp .eql 33 (.tmp 97) (.tmp 98) 33) (some 99) 30 true (b := false) (by kernel_rfl) (by kernel_rfl) (by kernel_rfl) rfl rfl ?_
          refine mm_run 34 36 rfl (by kernel_rfl) ?_
          refine mm_skip 36 (.move (.tmp 11)) (some 102) 35 true (b := false) (by kernel_rfl) (by kernel_rfl) (by kernel_rfl) rfl rfl ?_
          refine mm_skip 37 (.binOp .eql 34 (.tmp 102) (.const (.int .i64 (0))) 34) (some 103) 35 true (b := false) (by kernel_rfl) (by kernel_rfl) (by kernel_rfl) rfl rfl ?_
          refine mm_run 38 40 rfl (by kernel_rfl) ?_
          refine mm_nil 40 rfl ?_
          exact hK_43396 _ _ (Option.some.inj h).symm (to_ren [] (leB rfl) (by kernel_rfl) (by kernel_rfl) (renE_of (by kernel_rfl) (by kernel_rfl)) trivial)
      · refine mm_skip 6 (.move (.tmp 15)) (some 72) 5 true (b := (x_43306.1 == (-1))) (by kernel_rfl) (by kernel_rfl) (by kernel_rfl) h_43398 rfl ?_
        refine mm_skip 7 (.unOp .not 4 (.tmp 72)) (some 73) 5 true (b := (x_43306.1 == (-1))) (by kernel_rfl) (by kernel_rfl) (by kernel_rfl) h_43398 rfl ?_
        refine mm_one 8 (.pick (.tmp 71) (.tmp 73) (.const (.bool false))) (some 74) (by kernel_rfl) (by kernel_rfl) (oH_pure (B false) (ev_pickF h_43398 (by kernel_rfl) (by kernel_rfl)) rfl) ?_
        refine mm_run 9 10 rfl (by kernel_rfl) ?_
        refine mm_skip 10 (.move (.tmp 14)) (some 76) 9 true (b := false) (by kernel_rfl) (by kernel_rfl) (by kernel_rfl) rfl rfl ?_
        refine mm_skip 11 (.binOp .eql 3 (.tmp 76) (.const (.int .i64 (3))) 3) (some 77) 9 true (b := false) (by kernel_rfl) (by kernel_rfl) (by kernel_rfl) rfl rfl ?_
        refine mm_run 12 14 rfl (by kernel_rfl) ?_
        refine mm_skip 14 (.load 33 (.tmp 4)) (some 80) 13 true (b := false) (by kernel_rfl) (by kernel_rfl) (by kernel_rfl) rfl rfl ?_
        refine mm_skip 15 (.call ⟨.value (.func 27), #[(.const (.int .i64 (1))), (.const (.int .i64 (2))), (.const (.int .i64 (0)))], #[3, 3, 3]⟩) (some 81) 13 true (b := false) (by kernel_rfl) (by kernel_rfl) (by kernel_rfl) rfl rfl ?_
        refine mm_skip 16 (.binOp .eql 33 (.tmp 80) (.tmp 81) 33) (some 82) 13 true (b := false) (by kernel_rfl) (by kernel_rfl) (by kernel_rfl) rfl rfl ?_
        refine mm_run 17 19 rfl (by kernel_rfl) ?_
        refine mm_skip 19 (.move (.tmp 5)) (some 85) 18 true (b := false) (by kernel_rfl) (by kernel_rfl) (by kernel_rfl) rfl rfl ?_
        refine mm_skip 20 (.binOp .eql 34 (.tmp 85) (.const (.int .i64 (0))) 34) (some 86) 18 true (b := false) (by kernel_rfl) (by kernel_rfl) (by kernel_rfl) rfl rfl ?_
        refine mm_run 21 23 rfl (by kernel_rfl) ?_
        refine mm_skip 23 (.move (.tmp 7)) (some 89) 22 true (b := false) (by kernel_rfl) (by kernel_rfl) (by kernel_rfl) rfl rfl ?_
        refine mm_skip 24 (.binOp .eql 34 (.tmp 89) (.const (.int .i64 (11))) 34) (some 90) 22 true (b := false) (by kernel_rfl) (by kernel_rfl) (by kernel_rfl) rfl rfl ?_
        refine mm_run 25 27 rfl (by kernel_rfl) ?_
        refine mm_skip 27 (.move (.tmp 9)) (some 93) 26 true (b := false) (by kernel_rfl) (by kernel_rfl) (by kernel_rfl) rfl rfl ?_
        refine mm_skip 28 (.binOp .eql 34 (.tmp 93) (.const (.int .i64 (1))) 34) (some 94) 26 true (b := false) (by kernel_rfl) (by kernel_rfl) (by kernel_rfl) rfl rfl ?_
        refine mm_run 29 31 rfl (by kernel_rfl) ?_
        refine mm_skip 31 (.load 33 (.tmp 10)) (some 97) 30 true (b := false) (by kernel_rfl) (by kernel_rfl) (by kernel_rfl) rfl rfl ?_
        refine mm_skip 32 (.call ⟨.value (.func 27), #[(.const (.int .i64 (105))), (.const (.int .i64 (1))), (.const (.int .i64 (3)))], #[3, 3, 3]⟩) (some 98) 30 true (b := false) (by kernel_rfl) (by kernel_rfl) (by kernel_rfl) rfl rfl ?_
        refine mm_skip 33 (.binOp .eql 33 (.tmp 97) (.tmp 98) 33) (some 99) 30 true (b := false) (by kernel_rfl) (by kernel_rfl) (by kernel_rfl) rfl rfl ?_
        refine mm_run 34 36 rfl (by kernel_rfl) ?_
        refine mm_skip 36 (.move (.tmp 11)) (some 102) 35 true (b := false) (by kernel_rfl) (by kernel_rfl) (by kernel_rfl) rfl rfl ?_
        refine mm_skip 37 (.binOp .eql 34 (.tmp 102) (.const (.int .i64 (0))) 34) (some 103) 35 true (b := false) (by kernel_rfl) (by kernel_rfl) (by kernel_rfl) rfl rfl ?_
        refine mm_run 38 40 rfl (by kernel_rfl) ?_
        refine mm_nil 40 rfl ?_
        exact hK_43396 _ _ (Option.some.inj h).symm (to_ren [] (leB rfl) (by kernel_rfl) (by kernel_rfl) (renE_of (by kernel_rfl) (by kernel_rfl)) trivial)
    · refine mm_skip 2 (.move (.tmp 2)) (some 68) 1 true (b := x_43306.2) (by kernel_rfl) (by kernel_rfl) (by kernel_rfl) h_43397 rfl ?_
      refine mm_skip 3 (.binOp .eql 3 (.tmp 68) (.const (.int .i64 (-1))) 3) (some 69) 1 true (b := x_43306.2) (by kernel_rfl) (by kernel_rfl) (by kernel_rfl) h_43397 rfl ?_
      refine mm_one 4 (.pick (.tmp 67) (.tmp 69) (.const (.bool false))) (some 70) (by kernel_rfl) (by kernel_rfl) (oH_pure (B false) (ev_pickF h_43397 (by kernel_rfl) (by kernel_rfl)) rfl) ?_
      refine mm_run 5 6 rfl (by kernel_rfl) ?_
      refine mm_skip 6 (.move (.tmp 15)) (some 72) 5 true (b := false) (by kernel_rfl) (by kernel_rfl) (by kernel_rfl) rfl rfl ?_
      refine mm_skip 7 (.unOp .not 4 (.tmp 72)) (some 73) 5 true (b := false) (by kernel_rfl) (by kernel_rfl) (by kernel_rfl) rfl rfl ?_
      refine mm_run 8 10 rfl (by kernel_rfl) ?_
      refine mm_skip 10 (.move (.tmp 14)) (some 76) 9 true (b := false) (by kernel_rfl) (by kernel_rfl) (by kernel_rfl) rfl rfl ?_
      refine mm_skip 11 (.binOp .eql 3 (.tmp 76) (.const (.int .i64 (3))) 3) (some 77) 9 true (b := false) (by kernel_rfl) (by kernel_rfl) (by kernel_rfl) rfl rfl ?_
      refine mm_run 12 14 rfl (by kernel_rfl) ?_
      refine mm_skip 14 (.load 33 (.tmp 4)) (some 80) 13 true (b := false) (by kernel_rfl) (by kernel_rfl) (by kernel_rfl) rfl rfl ?_
      refine mm_skip 15 (.call ⟨.value (.func 27), #[(.const (.int .i64 (1))), (.const (.int .i64 (2))), (.const (.int .i64 (0)))], #[3, 3, 3]⟩) (some 81) 13 true (b := false) (by kernel_rfl) (by kernel_rfl) (by kernel_rfl) rfl rfl ?_
      refine mm_skip 16 (.binOp .eql 33 (.tmp 80) (.tmp 81) 33) (some 82) 13 true (b := false) (by kernel_rfl) (by kernel_rfl) (by kernel_rfl) rfl rfl ?_
      refine mm_run 17 19 rfl (by kernel_rfl) ?_
      refine mm_skip 19 (.move (.tmp 5)) (some 85) 18 true (b := false) (by kernel_rfl) (by kernel_rfl) (by kernel_rfl) rfl rfl ?_
      refine mm_skip 20 (.binOp .eql 34 (.tmp 85) (.const (.int .i64 (0))) 34) (some 86) 18 true (b := false) (by kernel_rfl) (by kernel_rfl) (by kernel_rfl) rfl rfl ?_
      refine mm_run 21 23 rfl (by kernel_rfl) ?_
      refine mm_skip 23 (.move (.tmp 7)) (some 89) 22 true (b := false) (by kernel_rfl) (by kernel_rfl) (by kernel_rfl) rfl rfl ?_
      refine mm_skip 24 (.binOp .eql 34 (.tmp 89) (.const (.int .i64 (11))) 34) (some 90) 22 true (b := false) (by kernel_rfl) (by kernel_rfl) (by kernel_rfl) rfl rfl ?_
      refine mm_run 25 27 rfl (by kernel_rfl) ?_
      refine mm_skip 27 (.move (.tmp 9)) (some 93) 26 true (b := false) (by kernel_rfl) (by kernel_rfl) (by kernel_rfl) rfl rfl ?_
      refine mm_skip 28 (.binOp .eql 34 (.tmp 93) (.const (.int .i64 (1))) 34) (some 94) 26 true (b := false) (by kernel_rfl) (by kernel_rfl) (by kernel_rfl) rfl rfl ?_
      refine mm_run 29 31 rfl (by kernel_rfl) ?_
      refine mm_skip 31 (.load 33 (.tmp 10)) (some 97) 30 true (b := false) (by kernel_rfl) (by kernel_rfl) (by kernel_rfl) rfl rfl ?_
      refine mm_skip 32 (.call ⟨.value (.func 27), #[(.const (.int .i64 (105))), (.const (.int .i64 (1))), (.const (.int .i64 (3)))], #[3, 3, 3]⟩) (some 98) 30 true (b := false) (by kernel_rfl) (by kernel_rfl) (by kernel_rfl) rfl rfl ?_
      refine mm_skip 33 (.binOp .eql 33 (.tmp 97) (.tmp 98) 33) (some 99) 30 true (b := false) (by kernel_rfl) (by kernel_rfl) (by kernel_rfl) rfl rfl ?_
      refine mm_run 34 36 rfl (by kernel_rfl) ?_
      refine mm_skip 36 (.move (.tmp 11)) (some 102) 35 true (b := false) (by kernel_rfl) (by kernel_rfl) (by kernel_rfl) rfl rfl ?_
      refine mm_skip 37 (.binOp .eql 34 (.tmp 102) (.const (.int .i64 (0))) 34) (some 103) 35 true (b := false) (by kernel_rfl) (by kernel_rfl) (by kernel_rfl) rfl rfl ?_
      refine mm_run 38 40 rfl (by kernel_rfl) ?_
      refine mm_nil 40 rfl ?_
      exact hK_43396 _ _ (Option.some.inj h).symm (to_ren [] (leB rfl) (by kernel_rfl) (by kernel_rfl) (renE_of (by kernel_rfl) (by kernel_rfl)) trivial)
  · refine w_seq (fun K hK_43435 => w_reg0 ?_)
    refine dd_run 0 2 rfl (by kernel_rfl) ?_
    refine ite_both h (fun h_43436 h => ?_) (fun h_43436 h => ?_)
    · refine dd_runG 2 4 1 true rfl (b := e_43394) (by kernel_rfl) h_43436 (by kernel_rfl) ?_
      refine dd_one 4 (.pick (.tmp 106) (.tmp 108) (.const (.bool false))) (some 109) (by kernel_rfl) (o_pure (B (x_43363.2 == 0)) (ev_pickT h_43436 (by kernel_rfl) (by kernel_rfl)) rfl) ?_
      refine dd_run 5 6 rfl (by kernel_rfl) ?_
      refine ite_both h (fun h_43437 h => ?_) (fun h_43437 h => ?_)
      · refine dd_runG 6 7 5 true rfl (b := (x_43363.2 == 0)) (by kernel_rfl) h_43437 (by kernel_rfl) ?_
        refine dd_oneG 7 (.call ⟨.builtin .len, #[(.tmp 111)], #[24]⟩) (some 112) 5 true (b := (x_43363.2 == 0)) (by kernel_rfl) (by kernel_rfl) h_43437 (o_pure (I (x_43363.1.length : Int)) (ev_len_sl (e := 31) (ty := 0) (k := 2) (c := cs_Ratio) (by kernel_rfl) (by kernel_rfl)) rfl) ?_
        refine dd_runG 8 9 5 true rfl (b := (x_43363.2 == 0)) (by kernel_rfl) h_43437 (by kernel_rfl) ?_
        refine dd_one 9 (.pick (.tmp 110) (.tmp 113) (.const (.bool false))) (some 114) (by kernel_rfl) (o_pure (B ((x_43363.1.length : Int) == 4)) (ev_pickT h_43437 (by kernel_rfl) (by kernel_rfl)) rfl) ?_
        refine dd_run 10 11 rfl (by kernel_rfl) ?_
        refine ite_both h (fun h_43438 h => ?_) (fun h_43438 h => ?_)
        · refine dd_runG 11 12 10 true rfl (b := ((x_43363.1.length : Int) == 4)) (by kernel_rfl) h_43438 (by kernel_rfl) ?_
          obtain ⟨x_43443, h_43444, h⟩ := bind_some' h
          refine dd_oneG 12 (.indexAddr 24 (.tmp 116) (.const (.int .i64 (0)))) (some 117) 10 true (b := ((x_43363.1.length : Int) == 4)) (by kernel_rfl) (by kernel_rfl) h_43438 (o_pure (.ip (cs_Ratio x_43443)) (ev_idx_sl (e := 31) (k := 2) (c := cs_Ratio) (ik := .i64) h_43444 (by kernel_rfl) (by kernel_rfl) (by kernel_rfl) (by kernel_rfl)) rfl) ?_
          refine dd_runG 13 15 10 true rfl (b := ((x_43363.1.length : Int) == 4)) (by kernel_rfl) h_43438 (by kernel_rfl) ?_
          refine dd_oneG 15 (.binOp .eql 31 (.tmp 118) (.tmp 119) 31) (some 120) 10 true (b := ((x_43363.1.length : Int) == 4)) (by kernel_rfl) (by kernel_rfl) h_43438 (o_cmp (x := .agg (cs_Ratio x_43443)) (y := .agg [I 201, I 200]) (decide (x_43443 = (D.Ratio.mk 201 200))) (by kernel_rfl) (by kernel_rfl) (by kernel_rfl) (eql_Ratio x_43443 (D.Ratio.mk 201 200)) rfl) ?_
          refine dd_one 16 (.pick (.tmp 115) (.tmp 120) (.const (.bool false))) (some 121) (by kernel_rfl) (o_pure (B (decide (x_43443 = (D.Ratio.mk 201 200)))) (ev_pickT h_43438 (by kernel_rfl) (by kernel_rfl)) rfl) ?_
          refine dd_run 17 18 rfl (by kernel_rfl) ?_
          refine ite_both h (fun h_43445 h => ?_) (fun h_43445 h => ?_)
          · refine dd_runG 18 19 17 true rfl (b := (decide (x_43443 = (D.Ratio.mk 201 200)))) (by kernel_rfl) h_43445 (by kernel_rfl) ?_
            obtain ⟨x_43450, h_43451, h⟩ := bind_some' h
            refine dd_oneG 19 (.indexAddr 24 (.tmp 123) (.const (.int .i64 (2)))) (some 124) 17 true (b := (decide (x_43443 = (D.Ratio.mk 201 200)))) (by kernel_rfl) (by kernel_rfl) h_43445 (o_pure (.ip (cs_Ratio x_43450)) (ev_idx_sl (e := 31) (k := 2) (c := cs_Ratio) (ik := .i64) h_43451 (by kernel_rfl) (by kernel_rfl) (by kernel_rfl) (by kernel_rfl)) rfl) ?_
            refine dd_runG 20 22 17 true rfl (b := (decide (x_43443 = (D.Ratio.mk 201 200)))) (by kernel_rfl) h_43445 (by kernel_rfl) ?_
            refine dd_oneG 22 (.binOp .eql 31 (.tmp 125) (.tmp 126) 31) (some 127) 17 true (b := (decide (x_43443 = (D.Ratio.mk 201 200)))) (by kernel_rfl) (by kernel_rfl) h_43445 (o_cmp (x := .agg (cs_Ratio x_43450)) (y := .agg [I 7, I 100]) (decide (x_43450 = (D.Ratio.mk 7 100))) (by kernel_rfl) (by kernel_rfl) (by kernel_rfl) (eql_Ratio x_43450 (D.Ratio.mk 7 100)) rfl) ?_
            refine dd_one 23 (.pick (.tmp 122) (.tmp 127) (.const (.bool false))) (some 128) (by kernel_rfl) (o_pure (B (decide (x_43450 = (D.Ratio.mk 7 100)))) (ev_pickT h_43445 (by kernel_rfl) (by kernel_rfl)) rfl) ?_
            refine dd_run 24 25 rfl (by kernel_rfl) ?_
            refine ite_both h (fun h_43452 h => ?_) (fun h_43452 h => ?_)
            · refine dd_runG 25 27 24 true rfl (b := (decide (x_43450 = (D.Ratio.mk 7 100)))) (by kernel_rfl) h_43452 (by kernel_rfl) ?_
              obtain ⟨x_43453, h_43454, h⟩ := bind_some' h
              refine dd_oneG 27 (.call ⟨.value (.func 15), #[(.tmp 130), (.tmp 131)], #[24, 24]⟩) (some 132) 24 true (b := (decide (x_43450 = (D.Ratio.mk 7 100)))) (by kernel_rfl) (by kernel_rfl) h_43452 (o_callP (g_quantity_Covers_ok h_43454) (by kernel_rfl) rfl) ?_
              refine dd_one 28 (.pick (.tmp 129) (.tmp 132) (.const (.bool false))) (some 133) (by kernel_rfl) (o_pure (B x_43453) (ev_pickT h_43452 (by kernel_rfl) (by kernel_rfl)) rfl) ?_
              refine dd_run 29 30 rfl (by kernel_rfl) ?_
              refine ite_both h (fun h_43455 h => ?_) (fun h_43455 h => ?_)
              · refine dd_runG 30 32 29 true rfl (b := x_43453) (by kernel_rfl) h_43455 (by kernel_rfl) ?_
                obtain ⟨_, h_43458, h⟩ := bind_some' h; replace h_43458 := slcO_some h_43458
                refine dd_oneG 32 (.slice 24 (.tmp 136) none (some (.const (.int .i64 (3)))) none) (some 137) 29 true (b := x_43453) (by kernel_rfl) (by kernel_rfl) h_43455 (o_pure (sl 2 cs_Ratio ((x_43363.1.drop (0 : Int).toNat).take ((3 : Int).toNat - (0 : Int).toNat))) (ev_slice (e := 31) (k := 2) (c := cs_Ratio) (l := x_43363.1) (i := 0) (j := 3) h_43458 (by kernel_rfl) (by kernel_rfl) (by kernel_rfl) (.inl ⟨rfl, rfl⟩) (.inr ⟨(.const (.int .i64 (3))), .i64, rfl, (by kernel_rfl)⟩)) rfl) ?_
                obtain ⟨x_43459, h_43460, h⟩ := bind_some' h
                refine dd_oneG 33 (.call ⟨.value (.func 15), #[(.tmp 135), (.tmp 137)], #[24, 24]⟩) (some 138) 29 true (b := x_43453) (by kernel_rfl) (by kernel_rfl) h_43455 (o_callP (g_quantity_Covers_ok h_43460) (by kernel_rfl) rfl) ?_
                refine dd_runG 34 35 29 true rfl (b := x_43453) (by kernel_rfl) h_43455 (by kernel_rfl) ?_
                refine dd_one 35 (.pick (.tmp 134) (.tmp 139) (.const (.bool false))) (some 140) (by kernel_rfl) (o_pure (B (!x_43459)) (ev_pickT h_43455 (by kernel_rfl) (by kernel_rfl)) rfl) ?_
                refine ops_fin' hK_43435 ⟨[(0, B (!x_43459))], [], 0⟩ (by kernel_rfl) (leB rfl) ?_
                refine w_ret ?_
                obtain rfl := ((Option.some.inj h).symm).symm
                exact ret_leaf (.inl rfl) ⟨[(0, B (!x_43459))], [], 0⟩ (to_ren [] (leB rfl) (by kernel_rfl) (by kernel_rfl) (renE_of (by kernel_rfl) (by kernel_rfl)) trivial) [B (!x_43459)] (by kernel_rfl) (by kernel_rfl) (leB rfl) (by kernel_rfl) trivial
              · refine dd_skip 30 35 29 true rfl (b := x_43453) (by kernel_rfl) h_43455 (by kernel_rfl) ?_
                refine dd_one 35 (.pick (.tmp 134) (.tmp 139) (.const (.bool false))) (some 140) (by kernel_rfl) (o_pure (B false) (ev_pickF h_43455 (by kernel_rfl) (by kernel_rfl)) rfl) ?_
                refine ops_fin' hK_43435 ⟨[(0, B false)], [], 0⟩ (by kernel_rfl) (leB rfl) ?_
                refine w_ret ?_
                obtain rfl := ((Option.some.inj h).symm).symm
                exact ret_leaf (.inl rfl) ⟨[(0, B false)], [], 0⟩ (to_ren [] (leB rfl) (by kernel_rfl) (by kernel_rfl) (renE_of (by kernel_rfl) (by kernel_rfl)) trivial) [B false] (by kernel_rfl) (by kernel_rfl) (leB rfl) (by kernel_rfl) trivial
            · refine dd_skip 25 28 24 true rfl (b := (decide (x_43450 = (D.Ratio.mk 7 100)))) (by kernel_rfl) h_43452 (by kernel_rfl) ?_
              refine dd_one 28 (.pick (.tmp 129) (.tmp 132) (.const (.bool false))) (some 133) (by kernel_rfl) (o_pure (B false) (ev_pickF h_43452 (by kernel_rfl) (by kernel_rfl)) rfl) ?_
              refine dd_run 29 30 rfl (by kernel_rfl) ?_
              refine dd_skip 30 35 29 true rfl (b := false) (by kernel_rfl) rfl (by kernel_rfl) ?_
              refine ops_fin' hK_43435 ⟨[(0, B false)], [], 0⟩ (by kernel_rfl) (leB rfl) ?_
              refine w_ret ?_
              obtain rfl := ((Option.some.inj h).symm).symm
              exact ret_leaf (.inl rfl) ⟨[(0, B false)], [], 0⟩ (to_ren [] (leB rfl) (by kernel_rfl) (by kernel_rfl) (renE_of (by kernel_rfl) (by kernel_rfl)) trivial) [B false] (by kernel_rfl) (by kernel_rfl) (leB rfl) (by kernel_rfl) trivial
          · refine dd_skip 18 23 17 true rfl (b := (decide (x_43443 = (D.Ratio.mk 201 200)))) (by kernel_rfl) h_43445 (by kernel_rfl) ?_
            refine dd_one 23 (.pick (.tmp 122) (.tmp 127) (.const (.bool false))) (some 128) (by kernel_rfl) (o_pure (B false) (ev_pickF h_43445 (by kernel_rfl) (by kernel_rfl)) rfl) ?_
            refine dd_run 24 25 rfl (by kernel_rfl) ?_
            refine dd_skip 25 28 24 true rfl (b := false) (by kernel_rfl) rfl (by kernel_rfl) ?_
            refine dd_run 28 30 rfl (by kernel_rfl) ?_
            refine dd_skip 30 35 29 true rfl (b := false) (by kernel_rfl) rfl (by kernel_rfl) ?_
            refine ops_fin' hK_43435 ⟨[(0, B false)], [], 0⟩ (by kernel_rfl) (leB rfl) ?_
            refine w_ret ?_
            obtain rfl := ((Option.some.inj h).symm).symm
            exact ret_leaf (.inl rfl) ⟨[(0, B false)], [], 0⟩ (to_ren [] (leB rfl) (by kernel_rfl) (by kernel_rfl) (renE_of (by kernel_rfl) (by kernel_rfl)) trivial) [B false] (by kernel_rfl) (by kernel_rfl) (leB rfl) (by kernel_rfl) trivial
        · refine dd_skip 11 16 10 true rfl (b := ((x_43363.1.length : Int) == 4)) (by kernel_rfl) h_43438 (by kernel_rfl) ?_
          refine dd_one 16 (.pick (.tmp 115) (.tmp 120) (.const (.bool false))) (some 121) (by kernel_rfl) (o_pure (B false) (ev_pickF h_43438 (by kernel_rfl) (by kernel_rfl)) rfl) ?_
          refine dd_run 17 18 rfl (by kernel_rfl) ?_
          refine dd_skip 18 23 17 true rfl (b := false) (by kernel_rfl) rfl (by kernel_rfl) ?_
          refine dd_run 23 25 rfl (by kernel_rfl) ?_
          refine dd_skip 25 28 24 true rfl (b := false) (by kernel_rfl) rfl (by kernel_rfl) ?_
          refine dd_run 28 30 rfl (by kernel_rfl) ?_
          refine dd_skip 30 35 29 true rfl (b := false) (by kernel_rfl) rfl (by kernel_rfl) ?_
          refine ops_fin' hK_43435 ⟨[(0, B false)], [], 0⟩ (by kernel_rfl) (leB rfl) ?_
          refine w_ret ?_
          obtain rfl := ((Option.some.inj h).symm).symm
          exact ret_leaf (.inl rfl) ⟨[(0, B false)], [], 0⟩ (to_ren [] (leB rfl) (by kernel_rfl) (by kernel_rfl) (renE_of (by kernel_rfl) (by kernel_rfl)) trivial) [B false] (by kernel_rfl) (by kernel_rfl) (leB rfl) (by kernel_rfl) trivial
      · refine dd_skip 6 9 5 true rfl (b := (x_43363.2 == 0)) (by kernel_rfl) h_43437 (by kernel_rfl) ?_
        refine dd_one 9 (.pick (.tmp 110) (.tmp 113) (.const (.bool false))) (some 114) (by kernel_rfl) (o_pure (B false) (ev_pickF h_43437 (by kernel_rfl) (by kernel_rfl)) rfl) ?_
        refine dd_run 10 11 rfl (by kernel_rfl) ?_
        refine dd_skip 11 16 10 true rfl (b := false) (by kernel_rfl) rfl (by kernel_rfl) ?_
        refine dd_run 16 18 rfl (by kernel_rfl) ?_
        refine dd_skip 18 23 17 true rfl (b := false) (by kernel_rfl) rfl (by kernel_rfl) ?_
        refine dd_run 23 25 rfl (by kernel_rfl) ?_
        refine dd_skip 25 28 24 true rfl (b := false) (by kernel_rfl) rfl (by kernel_rfl) ?_
        refine dd_run 28 30 rfl (by kernel_rfl) ?_
        refine dd_skip 30 35 29 true rfl (b := false) (by kernel_rfl) rfl (by kernel_rfl) ?_
        refine ops_fin' hK_43435 ⟨[(0, B false)], [], 0⟩ (by kernel_rfl) (leB rfl) ?_
        refine w_ret ?_
        obtain rfl := ((Option.some.inj h).symm).symm
        exact ret_leaf (.inl rfl) ⟨[(0, B false)], [], 0⟩ (to_ren [] (leB rfl) (by kernel_rfl) (by kernel_rfl) (renE_of (by kernel_rfl) (by kernel_rfl)) trivial) [B false] (by kernel_rfl) (by kernel_rfl) (leB rfl) (by kernel_rfl) trivial
    · refine dd_skip 2 4 1 true rfl (b := e_43394) (by kernel_rfl) h_43436 (by kernel_rfl) ?_
      refine dd_one 4 (.pick (.tmp 106) (.tmp 108) (.const (.bool false))) (some 109) (by kernel_rfl) (o_pure (B false) (ev_pickF h_43436 (by kernel_rfl) (by kernel_rfl)) rfl) ?_
      refine dd_run 5 6 rfl (by kernel_rfl) ?_
      refine dd_skip 6 9 5 true rfl (b := false) (by kernel_rfl) rfl (by kernel_rfl) ?_
      refine dd_run 9 11 rfl (by kernel_rfl) ?_
      refine dd_skip 11 16 10 true rfl (b := false) (by kernel_rfl) rfl (by kernel_rfl) ?_
      refine dd_run 16 18 rfl (by kernel_rfl) ?_
      refine dd_skip 18 23 17 true rfl (b := false) (by kernel_rfl) rfl (by kernel_rfl) ?_
      refine dd_run 23 25 rfl (by kernel_rfl) ?_
      refine dd_skip 25 28 24 true rfl (b := false) (by kernel_rfl) rfl (by kernel_rfl) ?_
      refine dd_run 28 30 rfl (by kernel_rfl) ?_
      refine dd_skip 30 35 29 true rfl (b := false) (by kernel_rfl) rfl (by kernel_rfl) ?_
      refine ops_fin' hK_43435 ⟨[(0, B false)], [], 0⟩ (by kernel_rfl) (leB rfl) ?_
      refine w_ret ?_
      obtain rfl := ((Option.some.inj h).symm).symm
      exact ret_leaf (.inl rfl) ⟨[(0, B false)], [], 0⟩ (to_ren [] (leB rfl) (by kernel_rfl) (by kernel_rfl) (renE_of (by kernel_rfl) (by kernel_rfl)) trivial) [B false] (by kernel_rfl) (by kernel_rfl) (leB rfl) (by kernel_rfl) trivial
end Go.Proofs.YtdfokoapenhalaaDoor.Ab
