/- Functions of the program as plain functions (printed by wip/dec.py). -/
import Derived.Test.YtgggekjhfdkgkaaDx5
import Derived.Test.YtgggekjhfdkgkaaDx7
import Derived.Test.YtgggekjhfdkgkaaDx13
namespace Go.Proofs.Ytgggekjhfdkgkaa.Ab
open Go Go.RowKit Go.Shelf
/-- estoppel/estoppellaw42.head -/
def g_estoppellaw42_head : Option (Bool) :=
  (g_estoppellaw42_debt 0 1 5 1).bind fun x_34407 =>
  (g_estoppellaw42_debt 1 2 5 1).bind fun x_34409 =>
  (g_netting_Net 3 [x_34407, x_34409]).bind fun x_34411 =>
  (g_estoppellaw42_debt 0 1 5 1).bind fun x_34422 =>
  (g_estoppellaw42_debt 1 2 5 1).bind fun x_34424 =>
  (g_estoppellaw42_debt 2 0 5 1).bind fun x_34426 =>
  (g_netting_Net 3 [x_34422, x_34424, x_34426]).bind fun x_34428 =>
  (g_estoppellaw42_debt 0 1 1 2).bind fun x_34437 =>
  (g_estoppellaw42_debt 1 0 1 3).bind fun x_34439 =>
  (g_netting_Net 3 [x_34437, x_34439]).bind fun x_34441 =>
  (g_estoppellaw42_debt 0 2 4 1).bind fun x_34450 =>
  (g_estoppellaw42_debt 1 2 3 1).bind fun x_34452 =>
  (g_netting_Net 3 [x_34450, x_34452]).bind fun x_34454 =>
  (g_estoppellaw42_debt 0 1 1 2).bind fun x_34465 =>
  (g_estoppellaw42_debt 1 0 2 3).bind fun x_34467 =>
  (g_estoppellaw42_debt 1 2 5 1).bind fun x_34469 =>
  (g_netting_Pairs 3 [x_34465, x_34467, x_34469]).bind fun x_34471 =>
  (g_estoppellaw42_debt 0 3 5 1).bind fun x_34478 =>
  (g_netting_Net 3 [x_34478]).bind fun x_34480 =>
  bindF (ρ := Bool) (
  if (x_34411.2 == 0) = true then
  (g_estoppellaw42_debt 0 2 5 1).bind fun x_34499 =>
  (g_estoppelref42_Same x_34411.1 [x_34499]).bind fun x_34501 =>
  if x_34501 = true then
  if (x_34428.2 == 0) = true then
  if ((x_34428.1.length : Int) == 0) = true then
  if (x_34441.2 == 0) = true then
  (g_estoppellaw42_debt 0 1 1 6).bind fun x_34507 =>
  (g_estoppelref42_Same x_34441.1 [x_34507]).bind fun x_34509 =>
  some (.inl x_34509)
  else
  some (.inl false)
  else
  some (.inl false)
  else
  some (.inl false)
  else
  some (.inl false)
  else
  some (.inl false)) (fun (e_34495 : Bool) =>
  if e_34495 = true then
  if (x_34454.2 == 0) = true then
  (g_estoppellaw42_debt 0 2 4 1).bind fun x_34531 =>
  (g_estoppellaw42_debt 1 2 3 1).bind fun x_34533 =>
  (g_estoppelref42_Same x_34454.1 [x_34531, x_34533]).bind fun x_34535 =>
  if x_34535 = true then
  if (x_34471.2 == 0) = true then
  (g_estoppellaw42_debt 1 0 1 6).bind fun x_34539 =>
  (g_estoppellaw42_debt 1 2 5 1).bind fun x_34541 =>
  (g_estoppelref42_Same x_34471.1 [x_34539, x_34541]).bind fun x_34543 =>
  if x_34543 = true then
  some (x_34480.2 == 1)
  else
  some false
  else
  some false
  else
  some false
  else
  some false
  else
  some false)
set_option maxHeartbeats 4000000 in
theorem g_estoppellaw42_head_ok {res : Bool} (h : g_estoppellaw42_head = some res) : SpecK Try.prog [] 9 [] [] 0 (B res) [] 0 := by
  refine ⟨spec_of_wp Try.func9 (by kernel_rfl) rfl Try.ntmps9 (by rw [Try.results9]) (leB rfl) ?_, by kernel_rfl, trivial, by kernel_rfl, trivial, by kernel_rfl⟩
  unfold g_estoppellaw42_head at h
  refine w_reg ⟨[], [], 0⟩ (by kernel_rfl) (leB rfl) ?_
  refine w_seq (fun K hK_34406 => w_reg0 ?_)
  obtain ⟨x_34407, h_34408, h⟩ := bind_some' h
  refine dd_one 0 (.call ⟨.value (.func 25), #[(.const (.int .i64 (0))), (.const (.int .i64 (1))), (.const (.int .i64 (5))), (.const (.int .i64 (1)))], #[3, 3, 3, 3]⟩) (some 15) (by kernel_rfl) (o_callP (g_estoppellaw42_debt_ok h_34408) (by kernel_rfl) rfl) ?_
  obtain ⟨x_34409, h_34410, h⟩ := bind_some' h
  refine dd_one 1 (.call ⟨.value (.func 25), #[(.const (.int .i64 (1))), (.const (.int .i64 (2))), (.const (.int .i64 (5))), (.const (.int .i64 (1)))], #[3, 3, 3, 3]⟩) (some 16) (by kernel_rfl) (o_callP (g_estoppellaw42_debt_ok h_34410) (by kernel_rfl) rfl) ?_
  refine dd_run 2 3 rfl (by kernel_rfl) ?_
  obtain ⟨x_34411, h_34412, h⟩ := bind_some' h
  refine dd_one 3 (.call ⟨.value (.func 14), #[(.const (.int .i64 (3))), (.tmp 17)], #[3, 22]⟩) (some 18) (by kernel_rfl) (o_callP (g_netting_Net_ok h_34412) (by kernel_rfl) rfl) ?_
  refine ops_fin' hK_34406 ⟨[(1, sl 4 cs_Debt x_34411.1), (2, I x_34411.2)], [], 0⟩ (by kernel_rfl) (leB rfl) ?_
  refine w_seq (fun K hK_34421 => w_reg0 ?_)
  obtain ⟨x_34422, h_34423, h⟩ := bind_some' h
  refine dd_one 0 (.call ⟨.value (.func 25), #[(.const (.int .i64 (0))), (.const (.int .i64 (1))), (.const (.int .i64 (5))), (.const (.int .i64 (1)))], #[3, 3, 3, 3]⟩) (some 22) (by kernel_rfl) (o_callP (g_estoppellaw42_debt_ok h_34423) (by kernel_rfl) rfl) ?_
  obtain ⟨x_34424, h_34425, h⟩ := bind_some' h
  refine dd_one 1 (.call ⟨.value (.func 25), #[(.const (.int .i64 (1))), (.const (.int .i64 (2))), (.const (.int .i64 (5))), (.const (.int .i64 (1)))], #[3, 3, 3, 3]⟩) (some 23) (by kernel_rfl) (o_callP (g_estoppellaw42_debt_ok h_34425) (by kernel_rfl) rfl) ?_
  obtain ⟨x_34426, h_34427, h⟩ := bind_some' h
  refine dd_one 2 (.call ⟨.value (.func 25), #[(.const (.int .i64 (2))), (.const (.int .i64 (0))), (.const (.int .i64 (5))), (.const (.int .i64 (1)))], #[3, 3, 3, 3]⟩) (some 24) (by kernel_rfl) (o_callP (g_estoppellaw42_debt_ok h_34427) (by kernel_rfl) rfl) ?_
  refine dd_run 3 4 rfl (by kernel_rfl) ?_
  obtain ⟨x_34428, h_34429, h⟩ := bind_some' h
  refine dd_one 4 (.call ⟨.value (.func 14), #[(.const (.int .i64 (3))), (.tmp 25)], #[3, 22]⟩) (some 26) (by kernel_rfl) (o_callP (g_netting_Net_ok h_34429) (by kernel_rfl) rfl) ?_
  refine ops_fin' hK_34421 ⟨[(1, sl 4 cs_Debt x_34411.1), (2, I x_34411.2), (3, sl 4 cs_Debt x_34428.1), (4, I x_34428.2)], [], 0⟩ (by kernel_rfl) (leB rfl) ?_
  refine w_seq (fun K hK_34436 => w_reg0 ?_)
  obtain ⟨x_34437, h_34438, h⟩ := bind_some' h
  refine dd_one 0 (.call ⟨.value (.func 25), #[(.const (.int .i64 (0))), (.const (.int .i64 (1))), (.const (.int .i64 (1))), (.const (.int .i64 (2)))], #[3, 3, 3, 3]⟩) (some 30) (by kernel_rfl) (o_callP (g_estoppellaw42_debt_ok h_34438) (by kernel_rfl) rfl) ?_
  obtain ⟨x_34439, h_34440, h⟩ := bind_some' h
  refine dd_one 1 (.call ⟨.value (.func 25), #[(.const (.int .i64 (1))), (.const (.int .i64 (0))), (.const (.int .i64 (1))), (.const (.int .i64 (3)))], #[3, 3, 3, 3]⟩) (some 31) (by kernel_rfl) (o_callP (g_estoppellaw42_debt_ok h_34440) (by kernel_rfl) rfl) ?_
  refine dd_run 2 3 rfl (by kernel_rfl) ?_
  obtain ⟨x_34441, h_34442, h⟩ := bind_some' h
  refine dd_one 3 (.call ⟨.value (.func 14), #[(.const (.int .i64 (3))), (.tmp 32)], #[3, 22]⟩) (some 33) (by kernel_rfl) (o_callP (g_netting_Net_ok h_34442) (by kernel_rfl) rfl) ?_
  refine ops_fin' hK_34436 ⟨[(1, sl 4 cs_Debt x_34411.1), (2, I x_34411.2), (3, sl 4 cs_Debt x_34428.1), (4, I x_34428.2), (5, sl 4 cs_Debt x_34441.1), (6, I x_34441.2)], [], 0⟩ (by kernel_rfl) (leB rfl) ?_
  refine w_seq (fun K hK_34449 => w_reg0 ?_)
  obtain ⟨x_34450, h_34451, h⟩ := bind_some' h
  refine dd_one 0 (.call ⟨.value (.func 25), #[(.const (.int .i64 (0))), (.const (.int .i64 (2))), (.const (.int .i64 (4))), (.const (.int .i64 (1)))], #[3, 3, 3, 3]⟩) (some 37) (by kernel_rfl) (o_callP (g_estoppellaw42_debt_ok h_34451) (by kernel_rfl) rfl) ?_
  obtain ⟨x_34452, h_34453, h⟩ := bind_some' h
  refine dd_one 1 (.call ⟨.value (.func 25), #[(.const (.int .i64 (1))), (.const (.int .i64 (2))), (.const (.int .i64 (3))), (.const (.int .i64 (1)))], #[3, 3, 3, 3]⟩) (some 38) (by kernel_rfl) (o_callP (g_estoppellaw42_debt_ok h_34453) (by kernel_rfl) rfl) ?_
  refine dd_run 2 3 rfl (by kernel_rfl) ?_
  obtain ⟨x_34454, h_34455, h⟩ := bind_some' h
  refine dd_one 3 (.call ⟨.value (.func 14), #[(.const (.int .i64 (3))), (.tmp 39)], #[3, 22]⟩) (some 40) (by kernel_rfl) (o_callP (g_netting_Net_ok h_34455) (by kernel_rfl) rfl) ?_
  refine ops_fin' hK_34449 ⟨[(1, sl 4 cs_Debt x_34411.1), (2, I x_34411.2), (3, sl 4 cs_Debt x_34428.1), (4, I x_34428.2), (5, sl 4 cs_Debt x_34441.1), (6, I x_34441.2), (7, sl 4 cs_Debt x_34454.1), (8, I x_34454.2)], [], 0⟩ (by kernel_rfl) (leB rfl) ?_
  refine w_seq (fun K hK_34464 => w_reg0 ?_)
  obtain ⟨x_34465, h_34466, h⟩ := bind_some' h
  refine dd_one 0 (.call ⟨.value (.func 25), #[(.const (.int .i64 (0))), (.const (.int .i64 (1))), (.const (.int .i64 (1))), (.const (.int .i64 (2)))], #[3, 3, 3, 3]⟩) (some 44) (by kernel_rfl) (o_callP (g_estoppellaw42_debt_ok h_34466) (by kernel_rfl) rfl) ?_
  obtain ⟨x_34467, h_34468, h⟩ := bind_some' h
  refine dd_one 1 (.call ⟨.value (.func 25), #[(.const (.int .i64 (1))), (.const (.int .i64 (0))), (.const (.int .i64 (2))), (.const (.int .i64 (3)))], #[3, 3, 3, 3]⟩) (some 45) (by kernel_rfl) (o_callP (g_estoppellaw42_debt_ok h_34468) (by kernel_rfl) rfl) ?_
  obtain ⟨x_34469, h_34470, h⟩ := bind_some' h
  refine dd_one 2 (.call ⟨.value (.func 25), #[(.const (.int .i64 (1))), (.const (.int .i64 (2))), (.const (.int .i64 (5))), (.const (.int .i64 (1)))], #[3, 3, 3, 3]⟩) (some 46) (by kernel_rfl) (o_callP (g_estoppellaw42_debt_ok h_34470) (by kernel_rfl) rfl) ?_
  refine dd_run 3 4 rfl (by kernel_rfl) ?_
  obtain ⟨x_34471, h_34472, h⟩ := bind_some' h
  refine dd_one 4 (.call ⟨.value (.func 12), #[(.const (.int .i64 (3))), (.tmp 47)], #[3, 22]⟩) (some 48) (by kernel_rfl) (o_callP (g_netting_Pairs_ok h_34472) (by kernel_rfl) rfl) ?_
  refine ops_fin' hK_34464 ⟨[(1, sl 4 cs_Debt x_34411.1), (2, I x_34411.2), (3, sl 4 cs_Debt x_34428.1), (4, I x_34428.2), (5, sl 4 cs_Debt x_34441.1), (6, I x_34441.2), (7, sl 4 cs_Debt x_34454.1), (8, I x_34454.2), (9, sl 4 cs_Debt x_34471.1), (10, I x_34471.2)], [], 0⟩ (by kernel_rfl) (leB rfl) ?_
  refine w_seq (fun K hK_34477 => w_reg0 ?_)
  obtain ⟨x_34478, h_34479, h⟩ := bind_some' h
  refine dd_one 0 (.call ⟨.value (.func 25), #[(.const (.int .i64 (0))), (.const (.int .i64 (3))), (.const (.int .i64 (5))), (.const (.int .i64 (1)))], #[3, 3, 3, 3]⟩) (some 52) (by kernel_rfl) (o_callP (g_estoppellaw42_debt_ok h_34479) (by kernel_rfl) rfl) ?_
  refine dd_run 1 2 rfl (by kernel_rfl) ?_
  obtain ⟨x_34480, h_34481, h⟩ := bind_some' h
  refine dd_one 2 (.call ⟨.value (.func 14), #[(.const (.int .i64 (3))), (.tmp 53)], #[3, 22]⟩) (some 54) (by kernel_rfl) (o_callP (g_netting_Net_ok h_34481) (by kernel_rfl) rfl) ?_
  refine ops_fin' hK_34477 ⟨[(1, sl 4 cs_Debt x_34411.1), (2, I x_34411.2), (3, sl 4 cs_Debt x_34428.1), (4, I x_34428.2), (5, sl 4 cs_Debt x_34441.1), (6, I x_34441.2), (7, sl 4 cs_Debt x_34454.1), (8, I x_34454.2), (9, sl 4 cs_Debt x_34471.1), (10, I x_34471.2), (12, I x_34480.2)], [], 0⟩ (by kernel_rfl) (leB rfl) ?_
  refine w_cut h (fun (e_34495 : Bool) => ⟨[(7, sl 4 cs_Debt x_34454.1), (8, I x_34454.2), (9, sl 4 cs_Debt x_34471.1), (10, I x_34471.2), (12, I x_34480.2), (13, B e_34495)], [], 0⟩) (fun o h h_34496 K hK_34497 => ?_) (fun e_34495 h => ?_)
  · refine w_reg0 ?_
    refine dd_run 0 3 rfl (by kernel_rfl) ?_
    refine ite_both h (fun h_34498 h => ?_) (fun h_34498 h => ?_)
    · refine dd_runG 3 4 2 true rfl (b := (x_34411.2 == 0)) (by kernel_rfl) h_34498 (by kernel_rfl) ?_
      obtain ⟨x_34499, h_34500, h⟩ := bind_some' h
      refine dd_oneG 4 (.call ⟨.value (.func 25), #[(.const (.int .i64 (0))), (.const (.int .i64 (2))), (.const (.int .i64 (5))), (.const (.int .i64 (1)))], #[3, 3, 3, 3]⟩) (some 61) 2 true (b := (x_34411.2 == 0)) (by kernel_rfl) (by kernel_rfl) h_34498 (o_callP (g_estoppellaw42_debt_ok h_34500) (by kernel_rfl) rfl) ?_
      refine dd_runG 5 6 2 true rfl (b := (x_34411.2 == 0)) (by kernel_rfl) h_34498 (by kernel_rfl) ?_
      obtain ⟨x_34501, h_34502, h⟩ := bind_some' h
      refine dd_oneG 6 (.call ⟨.value (.func 19), #[(.tmp 60), (.tmp 62)], #[22, 22]⟩) (some 63) 2 true (b := (x_34411.2 == 0)) (by kernel_rfl) (by kernel_rfl) h_34498 (o_callP (g_estoppelref42_Same_ok h_34502) (by kernel_rfl) rfl) ?_
      refine dd_one 7 (.pick (.tmp 59) (.tmp 63) (.const (.bool false))) (some 64) (by kernel_rfl) (o_pure (B x_34501) (ev_pickT h_34498 (by kernel_rfl) (by kernel_rfl)) rfl) ?_
      refine dd_run 8 9 rfl (by kernel_rfl) ?_
      refine ite_both h (fun h_34503 h => ?_) (fun h_34503 h => ?_)
      · refine dd_runG 9 11 8 true rfl (b := x_34501) (by kernel_rfl) h_34503 (by kernel_rfl) ?_
        refine dd_one 11 (.pick (.tmp 65) (.tmp 67) (.const (.bool false))) (some 68) (by kernel_rfl) (o_pure (B (x_34428.2 == 0)) (ev_pickT h_34503 (by kernel_rfl) (by kernel_rfl)) rfl) ?_
        refine dd_run 12 13 rfl (by kernel_rfl) ?_
        refine ite_both h (fun h_34504 h => ?_) (fun h_34504 h => ?_)
        · refine dd_runG 13 14 12 true rfl (b := (x_34428.2 == 0)) (by kernel_rfl) h_34504 (by kernel_rfl) ?_
          refine dd_oneG 14 (.call ⟨.builtin .len, #[(.tmp 70)], #[22]⟩) (some 71) 12 true (b := (x_34428.2 == 0)) (by kernel_rfl) (by kernel_rfl) h_34504 (o_pure (I (x_34428.1.length : Int)) (ev_len_sl (e := 38) (ty := 0) (k := 4) (c := cs_Debt) (by kernel_rfl) (by kernel_rfl)) rfl) ?_
          refine dd_runG 15 16 12 true rfl (b := (x_34428.2 == 0)) (by kernel_rfl) h_34504 (by kernel_rfl) ?_
          refine dd_one 16 (.pick (.tmp 69) (.tmp 72) (.const (.bool false))) (some 73) (by kernel_rfl) (o_pure (B ((x_34428.1.length : Int) == 0)) (ev_pickT h_34504 (by kernel_rfl) (by kernel_rfl)) rfl) ?_
          refine dd_run 17 18 rfl (by kernel_rfl) ?_
          refine ite_both h (fun h_34505 h => ?_) (fun h_34505 h => ?_)
          · refine dd_runG 18 20 17 true rfl (b := ((x_34428.1.length : Int) == 0)) (by kernel_rfl) h_34505 (by kernel_rfl) ?_
            refine dd_one 20 (.pick (.tmp 74) (.tmp 76) (.const (.bool false))) (some 77) (by kernel_rfl) (o_pure (B (x_34441.2 == 0)) (ev_pickT h_34505 (by kernel_rfl) (by kernel_rfl)) rfl) ?_
            refine dd_run 21 22 rfl (by kernel_rfl) ?_
            refine ite_both h (fun h_34506 h => ?_) (fun h_34506 h => ?_)
            · refine dd_runG 22 23 21 true rfl (b := (x_34441.2 == 0)) (by kernel_rfl) h_34506 (by kernel_rfl) ?_
              obtain ⟨x_34507, h_34508, h⟩ := bind_some' h
              refine dd_oneG 23 (.call ⟨.value (.func 25), #[(.const (.int .i64 (0))), (.const (.int .i64 (1))), (.const (.int .i64 (1))), (.const (.int .i64 (6)))], #[3, 3, 3, 3]⟩) (some 80) 21 true (b := (x_34441.2 == 0)) (by kernel_rfl) (by kernel_rfl) h_34506 (o_callP (g_estoppellaw42_debt_ok h_34508) (by kernel_rfl) rfl) ?_
              refine dd_runG 24 25 21 true rfl (b := (x_34441.2 == 0)) (by kernel_rfl) h_34506 (by kernel_rfl) ?_
              obtain ⟨x_34509, h_34510, h⟩ := bind_some' h
              refine dd_oneG 25 (.call ⟨.value (.func 19), #[(.tmp 79), (.tmp 81)], #[22, 22]⟩) (some 82) 21 true (b := (x_34441.2 == 0)) (by kernel_rfl) (by kernel_rfl) h_34506 (o_callP (g_estoppelref42_Same_ok h_34510) (by kernel_rfl) rfl) ?_
              refine dd_one 26 (.pick (.tmp 78) (.tmp 82) (.const (.bool false))) (some 83) (by kernel_rfl) (o_pure (B x_34509) (ev_pickT h_34506 (by kernel_rfl) (by kernel_rfl)) rfl) ?_
              refine dd_run 27 28 rfl (by kernel_rfl) ?_
              refine dd_nil 28 rfl ?_
              exact hK_34497 _ _ (Option.some.inj h).symm (to_ren [] (leB rfl) (by kernel_rfl) (by kernel_rfl) (renE_of (by kernel_rfl) (by kernel_rfl)) trivial)
            · refine dd_skip 22 26 21 true rfl (b := (x_34441.2 == 0)) (by kernel_rfl) h_34506 (by kernel_rfl) ?_
              refine dd_one 26 (.pick (.tmp 78) (.tmp 82) (.const (.bool false))) (some 83) (by kernel_rfl) (o_pure (B false) (ev_pickF h_34506 (by kernel_rfl) (by kernel_rfl)) rfl) ?_
              refine dd_run 27 28 rfl (by kernel_rfl) ?_
              refine dd_nil 28 rfl ?_
              exact hK_34497 _ _ (Option.some.inj h).symm (to_ren [] (leB rfl) (by kernel_rfl) (by kernel_rfl) (renE_of (by kernel_rfl) (by kernel_rfl)) trivial)
          · refine dd_skip 18 20 17 true rfl (b := ((x_34428.1.length : Int) == 0)) (by kernel_rfl) h_34505 (by kernel_rfl) ?_
            refine dd_one 20 (.pick (.tmp 74) (.tmp 76) (.const (.bool false))) (some 77) (by kernel_rfl) (o_pure (B false) (ev_pickF h_34505 (by kernel_rfl) (by kernel_rfl)) rfl) ?_
            refine dd_run 21 22 rfl (by kernel_rfl) ?_
            refine dd_skip 22 26 21 true rfl (b := false) (by kernel_rfl) rfl (by kernel_rfl) ?_
            refine dd_run 26 28 rfl (by kernel_rfl) ?_
            refine dd_nil 28 rfl ?_
            exact hK_34497 _ _ (Option.some.inj h).symm (to_ren [] (leB rfl) (by kernel_rfl) (by kernel_rfl) (renE_of (by kernel_rfl) (by kernel_rfl)) trivial)
        · refine dd_skip 13 16 12 true rfl (b := (x_34428.2 == 0)) (by kernel_rfl) h_34504 (by kernel_rfl) ?_
          refine dd_one 16 (.pick (.tmp 69) (.tmp 72) (.const (.bool false))) (some 73) (by kernel_rfl) (o_pure (B false) (ev_pickF h_34504 (by kernel_rfl) (by kernel_rfl)) rfl) ?_
          refine dd_run 17 18 rfl (by kernel_rfl) ?_
          refine dd_skip 18 20 17 true rfl (b := false) (by kernel_rfl) rfl (by kernel_rfl) ?_
          refine dd_run 20 22 rfl (by kernel_rfl) ?_
          refine dd_skip 22 26 21 true rfl (b := false) (by kernel_rfl) rfl (by kernel_rfl) ?_
          refine dd_run 26 28 rfl (by kernel_rfl) ?_
          refine dd_nil 28 rfl ?_
          exact hK_34497 _ _ (Option.some.inj h).symm (to_ren [] (leB rfl) (by kernel_rfl) (by kernel_rfl) (renE_of (by kernel_rfl) (by kernel_rfl)) trivial)
      · refine dd_skip 9 11 8 true rfl (b := x_34501) (by kernel_rfl) h_34503 (by kernel_rfl) ?_
        refine dd_one 11 (.pick (.tmp 65) (.tmp 67) (.const (.bool false))) (some 68) (by kernel_rfl) (o_pure (B false) (ev_pickF h_34503 (by kernel_rfl) (by kernel_rfl)) rfl) ?_
        refine dd_run 12 13 rfl (by kernel_rfl) ?_
        refine dd_skip 13 16 12 true rfl (b := false) (by kernel_rfl) rfl (by kernel_rfl) ?_
        refine dd_run 16 18 rfl (by kernel_rfl) ?_
        refine dd_skip 18 20 17 true rfl (b := false) (by kernel_rfl) rfl (by kernel_rfl) ?_
        refine dd_run 20 22 rfl (by kernel_rfl) ?_
        refine dd_skip 22 26 21 true rfl (b := false) (by kernel_rfl) rfl (by kernel_rfl) ?_
        refine dd_run 26 28 rfl (by kernel_rfl) ?_
        refine dd_nil 28 rfl ?_
        exact hK_34497 _ _ (Option.some.inj h).symm (to_ren [] (leB rfl) (by kernel_rfl) (by kernel_rfl) (renE_of (by kernel_rfl) (by kernel_rfl)) trivial)
    · refine dd_skip 3 7 2 true rfl (b := (x_34411.2 == 0)) (by kernel_rfl) h_34498 (by kernel_rfl) ?_
      refine dd_one 7 (.pick (.tmp 59) (.tmp 63) (.const (.bool false))) (some 64) (by kernel_rfl) (o_pure (B false) (ev_pickF h_34498 (by kernel_rfl) (by kernel_rfl)) rfl) ?_
      refine dd_run 8 9 rfl (by kernel_rfl) ?_
      refine dd_skip 9 11 8 true rfl (b := false) (by kernel_rfl) rfl (by kernel_rfl) ?_
      refine dd_run 11 13 rfl (by kernel_rfl) ?_
      refine dd_skip 13 16 12 true rfl (b := false) (by kernel_rfl) rfl (by kernel_rfl) ?_
      refine dd_run 16 18 rfl (by kernel_rfl) ?_
      refine dd_skip 18 20 17 true rfl (b := false) (by kernel_rfl) rfl (by kernel_rfl) ?_
      refine dd_run 20 22 rfl (by kernel_rfl) ?_
      refine dd_skip 22 26 21 true rfl (b := false) (by kernel_rfl) rfl (by kernel_rfl) ?_
      refine dd_run 26 28 rfl (by kernel_rfl) ?_
      refine dd_nil 28 rfl ?_
      exact hK_34497 _ _ (Option.some.inj h).symm (to_ren [] (leB rfl) (by kernel_rfl) (by kernel_rfl) (renE_of (by kernel_rfl) (by kernel_rfl)) trivial)
  · refine w_seq (fun K hK_34528 => w_reg0 ?_)
    refine dd_run 0 2 rfl (by kernel_rfl) ?_
    refine ite_both h (fun h_34529 h => ?_) (fun h_34529 h => ?_)
    · refine dd_runG 2 4 1 true rfl (b := e_34495) (by kernel_rfl) h_34529 (by kernel_rfl) ?_
      refine dd_one 4 (.pick (.tmp 85) (.tmp 87) (.const (.bool false))) (some 88) (by kernel_rfl) (o_pure (B (x_34454.2 == 0)) (ev_pickT h_34529 (by kernel_rfl) (by kernel_rfl)) rfl) ?_
      refine dd_run 5 6 rfl (by kernel_rfl) ?_
      refine ite_both h (fun h_34530 h => ?_) (fun h_34530 h => ?_)
      · refine dd_runG 6 7 5 true rfl (b := (x_34454.2 == 0)) (by kernel_rfl) h_34530 (by kernel_rfl) ?_
        obtain ⟨x_34531, h_34532, h⟩ := bind_some' h
        refine dd_oneG 7 (.call ⟨.value (.func 25), #[(.const (.int .i64 (0))), (.const (.int .i64 (2))), (.const (.int .i64 (4))), (.const (.int .i64 (1)))], #[3, 3, 3, 3]⟩) (some 91) 5 true (b := (x_34454.2 == 0)) (by kernel_rfl) (by kernel_rfl) h_34530 (o_callP (g_estoppellaw42_debt_ok h_34532) (by kernel_rfl) rfl) ?_
        obtain ⟨x_34533, h_34534, h⟩ := bind_some' h
        refine dd_oneG 8 (.call ⟨.value (.func 25), #[(.const (.int .i64 (1))), (.const (.int .i64 (2))), (.const (.int .i64 (3))), (.const (.int .i64 (1)))], #[3, 3, 3, 3]⟩) (some 92) 5 true (b := (x_34454.2 == 0)) (by kernel_rfl) (by kernel_rfl) h_34530 (o_callP (g_estoppellaw42_debt_ok h_34534) (by kernel_rfl) rfl) ?_
        refine dd_runG 9 10 5 true rfl (b := (x_34454.2 == 0)) (by kernel_rfl) h_34530 (by kernel_rfl) ?_
        obtain ⟨x_34535, h_34536, h⟩ := bind_some' h
        refine dd_oneG 10 (.call ⟨.value (.func 19), #[(.tmp 90), (.tmp 93)], #[22, 22]⟩) (some 94) 5 true (b := (x_34454.2 == 0)) (by kernel_rfl) (by kernel_rfl) h_34530 (o_callP (g_estoppelref42_Same_ok h_34536) (by kernel_rfl) rfl) ?_
        refine dd_one 11 (.pick (.tmp 89) (.tmp 94) (.const (.bool false))) (some 95) (by kernel_rfl) (o_pure (B x_34535) (ev_pickT h_34530 (by kernel_rfl) (by kernel_rfl)) rfl) ?_
        refine dd_run 12 13 rfl (by kernel_rfl) ?_
        refine ite_both h (fun h_34537 h => ?_) (fun h_34537 h => ?_)
        · refine dd_runG 13 15 12 true rfl (b := x_34535) (by kernel_rfl) h_34537 (by kernel_rfl) ?_
          refine dd_one 15 (.pick (.tmp 96) (.tmp 98) (.const (.bool false))) (some 99) (by kernel_rfl) (o_pure (B (x_34471.2 == 0)) (ev_pickT h_34537 (by kernel_rfl) (by kernel_rfl)) rfl) ?_
          refine dd_run 16 17 rfl (by kernel_rfl) ?_
          refine ite_both h (fun h_34538 h => ?_) (fun h_34538 h => ?_)
          · refine dd_runG 17 18 16 true rfl (b := (x_34471.2 == 0)) (by kernel_rfl) h_34538 (by kernel_rfl) ?_
            obtain ⟨x_34539, h_34540, h⟩ := bind_some' h
            refine dd_oneG 18 (.call ⟨.value (.func 25), #[(.const (.int .i64 (1))), (.const (.int .i64 (0))), (.const (.int .i64 (1))), (.const (.int .i64 (6)))], #[3, 3, 3, 3]⟩) (some 102) 16 true (b := (x_34471.2 == 0)) (by kernel_rfl) (by kernel_rfl) h_34538 (o_callP (g_estoppellaw42_debt_ok h_34540) (by kernel_rfl) rfl) ?_
            obtain ⟨x_34541, h_34542, h⟩ := bind_some' h
            refine dd_oneG 19 (.call ⟨.value (.func 25), #[(.const (.int .i64 (1))), (.const (.int .i64 (2))), (.const (.int .i64 (5))), (.const (.int .i64 (1)))], #[3, 3, 3, 3]⟩) (some 103) 16 true (b := (x_34471.2 == 0)) (by kernel_rfl) (by kernel_rfl) h_34538 (o_callP (g_estoppellaw42_debt_ok h_34542) (by kernel_rfl) rfl) ?_
            refine dd_runG 20 21 16 true rfl (b := (x_34471.2 == 0)) (by kernel_rfl) h_34538 (by kernel_rfl) ?_
            obtain ⟨x_34543, h_34544, h⟩ := bind_some' h
            refine dd_oneG 21 (.call ⟨.value (.func 19), #[(.tmp 101), (.tmp 104)], #[22, 22]⟩) (some 105) 16 true (b := (x_34471.2 == 0)) (by kernel_rfl) (by kernel_rfl) h_34538 (o_callP (g_estoppelref42_Same_ok h_34544) (by kernel_rfl) rfl) ?_
            refine dd_one 22 (.pick (.tmp 100) (.tmp 105) (.const (.bool false))) (some 106) (by kernel_rfl) (o_pure (B x_34543) (ev_pickT h_34538 (by kernel_rfl) (by kernel_rfl)) rfl) ?_
            refine dd_run 23 24 rfl (by kernel_rfl) ?_
            refine ite_both h (fun h_34545 h => ?_) (fun h_34545 h => ?_)
            · refine dd_runG 24 26 23 true rfl (b := x_34543) (by kernel_rfl) h_34545 (by kernel_rfl) ?_
              refine dd_one 26 (.pick (.tmp 107) (.tmp 109) (.const (.bool false))) (some 110) (by kernel_rfl) (o_pure (B (x_34480.2 == 1)) (ev_pickT h_34545 (by kernel_rfl) (by kernel_rfl)) rfl) ?_
              refine ops_fin' hK_34528 ⟨[(0, B (x_34480.2 == 1))], [], 0⟩ (by kernel_rfl) (leB rfl) ?_
              refine w_ret ?_
              obtain rfl := ((Option.some.inj h).symm).symm
              exact ret_leaf (.inl rfl) ⟨[(0, B (x_34480.2 == 1))], [], 0⟩ (to_ren [] (leB rfl) (by kernel_rfl) (by kernel_rfl) (renE_of (by kernel_rfl) (by kernel_rfl)) trivial) [B (x_34480.2 == 1)] (by kernel_rfl) (by kernel_rfl) (leB rfl) (by kernel_rfl) trivial
            · refine dd_skip 24 26 23 true rfl (b := x_34543) (by kernel_rfl) h_34545 (by kernel_rfl) ?_
              refine dd_one 26 (.pick (.tmp 107) (.tmp 109) (.const (.bool false))) (some 110) (by kernel_rfl) (o_pure (B false) (ev_pickF h_34545 (by kernel_rfl) (by kernel_rfl)) rfl) ?_
              refine ops_fin' hK_34528 ⟨[(0, B false)], [], 0⟩ (by kernel_rfl) (leB rfl) ?_
              refine w_ret ?_
              obtain rfl := ((Option.some.inj h).symm).symm
              exact ret_leaf (.inl rfl) ⟨[(0, B false)], [], 0⟩ (to_ren [] (leB rfl) (by kernel_rfl) (by kernel_rfl) (renE_of (by kernel_rfl) (by kernel_rfl)) trivial) [B false] (by kernel_rfl) (by kernel_rfl) (leB rfl) (by kernel_rfl) trivial
          · refine dd_skip 17 22 16 true rfl (b := (x_34471.2 == 0)) (by kernel_rfl) h_34538 (by kernel_rfl) ?_
            refine dd_one 22 (.pick (.tmp 100) (.tmp 105) (.const (.bool false))) (some 106) (by kernel_rfl) (o_pure (B false) (ev_pickF h_34538 (by kernel_rfl) (by kernel_rfl)) rfl) ?_
            refine dd_run 23 24 rfl (by kernel_rfl) ?_
            refine dd_skip 24 26 23 true rfl (b := false) (by kernel_rfl) rfl (by kernel_rfl) ?_
            refine ops_fin' hK_34528 ⟨[(0, B false)], [], 0⟩ (by kernel_rfl) (leB rfl) ?_
            refine w_ret ?_
            obtain rfl := ((Option.some.inj h).symm).symm
            exact ret_leaf (.inl rfl) ⟨[(0, B false)], [], 0⟩ (to_ren [] (leB rfl) (by kernel_rfl) (by kernel_rfl) (renE_of (by kernel_rfl) (by kernel_rfl)) trivial) [B false] (by kernel_rfl) (by kernel_rfl) (leB rfl) (by kernel_rfl) trivial
        · refine dd_skip 13 15 12 true rfl (b := x_34535) (by kernel_rfl) h_34537 (by kernel_rfl) ?_
          refine dd_one 15 (.pick (.tmp 96) (.tmp 98) (.const (.bool false))) (some 99) (by kernel_rfl) (o_pure (B false) (ev_pickF h_34537 (by kernel_rfl) (by kernel_rfl)) rfl) ?_
          refine dd_run 16 17 rfl (by kernel_rfl) ?_
          refine dd_skip 17 22 16 true rfl (b := false) (by kernel_rfl) rfl (by kernel_rfl) ?_
          refine dd_run 22 24 rfl (by kernel_rfl) ?_
          refine dd_skip 24 26 23 true rfl (b := false) (by kernel_rfl) rfl (by kernel_rfl) ?_
          refine ops_fin' hK_34528 ⟨[(0, B false)], [], 0⟩ (by kernel_rfl) (leB rfl) ?_
          refine w_ret ?_
          obtain rfl := ((Option.some.inj h).symm).symm
          exact ret_leaf (.inl rfl) ⟨[(0, B false)], [], 0⟩ (to_ren [] (leB rfl) (by kernel_rfl) (by kernel_rfl) (renE_of (by kernel_rfl) (by kernel_rfl)) trivial) [B false] (by kernel_rfl) (by kernel_rfl) (leB rfl) (by kernel_rfl) trivial
      · refine dd_skip 6 11 5 true rfl (b := (x_34454.2 == 0)) (by kernel_rfl) h_34530 (by kernel_rfl) ?_
        refine dd_one 11 (.pick (.tmp 89) (.tmp 94) (.const (.bool false))) (some 95) (by kernel_rfl) (o_pure (B false) (ev_pickF h_34530 (by kernel_rfl) (by kernel_rfl)) rfl) ?_
        refine dd_run 12 13 rfl (by kernel_rfl) ?_
        refine dd_skip 13 15 12 true rfl (b := false) (by kernel_rfl) rfl (by kernel_rfl) ?_
        refine dd_run 15 17 rfl (by kernel_rfl) ?_
        refine dd_skip 17 22 16 true rfl (b := false) (by kernel_rfl) rfl (by kernel_rfl) ?_
        refine dd_run 22 24 rfl (by kernel_rfl) ?_
        refine dd_skip 24 26 23 true rfl (b := false) (by kernel_rfl) rfl (by kernel_rfl) ?_
        refine ops_fin' hK_34528 ⟨[(0, B false)], [], 0⟩ (by kernel_rfl) (leB rfl) ?_
        refine w_ret ?_
        obtain rfl := ((Option.some.inj h).symm).symm
        exact ret_leaf (.inl rfl) ⟨[(0, B false)], [], 0⟩ (to_ren [] (leB rfl) (by kernel_rfl) (by kernel_rfl) (renE_of (by kernel_rfl) (by kernel_rfl)) trivial) [B false] (by kernel_rfl) (by kernel_rfl) (leB rfl) (by kernel_rfl) trivial
    · refine dd_skip 2 4 1 true rfl (b := e_34495) (by kernel_rfl) h_34529 (by kernel_rfl) ?_
      refine dd_one 4 (.pick (.tmp 85) (.tmp 87) (.const (.bool false))) (some 88) (by kernel_rfl) (o_pure (B false) (ev_pickF h_34529 (by kernel_rfl) (by kernel_rfl)) rfl) ?_
      refine dd_run 5 6 rfl (by kernel_rfl) ?_
      refine dd_skip 6 11 5 true rfl (b := false) (by kernel_rfl) rfl (by kernel_rfl) ?_
      refine dd_run 11 13 rfl (by kernel_rfl) ?_
      refine dd_skip 13 15 12 true rfl (b := false) (by kernel_rfl) rfl (by kernel_rfl) ?_
      refine dd_run 15 17 rfl (by kernel_rfl) ?_
      refine dd_skip 17 22 16 true rfl (b := false) (by kernel_rfl) rfl (by kernel_rfl) ?_
      refine dd_run 22 24 rfl (by kernel_rfl) ?_
      refine dd_skip 24 26 23 true rfl (b := false) (by kernel_rfl) rfl (by kernel_rfl) ?_
      refine ops_fin' hK_34528 ⟨[(0, B false)], [], 0⟩ (by kernel_rfl) (leB rfl) ?_
      refine w_ret ?_
      obtain rfl := ((Option.some.inj h).symm).symm
      exact ret_leaf (.inl rfl) ⟨[(0, B false)], [], 0⟩ (to_ren [] (leB rfl) (by kernel_rfl) (by kernel_rfl) (renE_of (by kernel_rfl) (by kernel_rfl)) trivial) [B false] (by kernel_rfl) (by kernel_rfl) (leB rfl) (by kernel_rfl) trivial
end Go.Proofs.Ytgggekjhfdkgkaa.Ab
