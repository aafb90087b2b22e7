/- Functions of the program as plain functions (printed by wip/dec.py). -/
import Derived.Test.YtgggekjhfdkgkaaDx2
import Derived.Test.YtgggekjhfdkgkaaDx3
import Derived.Test.YtgggekjhfdkgkaaDx5
import Derived.Test.YtgggekjhfdkgkaaDx7
import Derived.Test.YtgggekjhfdkgkaaDx13
import Derived.Test.YtgggekjhfdkgkaaDx14
namespace Go.Proofs.Ytgggekjhfdkgkaa.Ab
open Go Go.RowKit Go.Shelf
/-- estoppel/estoppellaw42.NettingAgain -/
def g_estoppellaw42_NettingAgain (a1 : Int) (a2 : List D.Debt) : Option (Bool) :=
  (g_estoppellaw42_head).bind fun x_43351 =>
  if (decide ((a2.length : Int) > 400)) = true then
  some x_43351
  else
  (g_netting_Net a1 a2).bind fun x_43360 =>
  (g_netting_Pairs a1 a2).bind fun x_43365 =>
  (g_netting_Net a1 x_43360.1).bind fun x_43370 =>
  (g_netting_Pairs a1 x_43365.1).bind fun x_43375 =>
  bindF (ρ := Bool) (
  if (x_43360.2 == 0) = true then
  if (x_43370.2 != 2) = true then
  if (x_43370.2 != 0) = true then
  some (.inl true)
  else
  (g_estoppelref42_Same x_43360.1 x_43370.1).bind fun x_43388 =>
  some (.inl (!x_43388))
  else
  some (.inl false)
  else
  some (.inl false)) (fun (e_43382 : Bool) =>
  if e_43382 = true then
  some false
  else
  if x_43351 = true then
  if (x_43365.2 != 0) = true then
  some true
  else
  if (x_43375.2 == 0) = true then
  (g_estoppelref42_Same x_43365.1 x_43375.1).bind fun x_43402 =>
  some x_43402
  else
  some false
  else
  some false)
set_option maxHeartbeats 4000000 in
theorem g_estoppellaw42_NettingAgain_ok {a1 : Int} {a2 : List D.Debt} {res : Bool} (h : g_estoppellaw42_NettingAgain a1 a2 = some res) : SpecK Try.prog [] 6 [I a1, sl 4 cs_Debt a2] [] 0 (B res) [] 0 := by
  refine ⟨spec_of_wp Try.func6 (by kernel_rfl) rfl Try.ntmps6 (by rw [Try.results6]) (leB rfl) ?_, by kernel_rfl, trivial, by kernel_rfl, trivial, by kernel_rfl⟩
  unfold g_estoppellaw42_NettingAgain at h
  refine w_reg ⟨[(0, I a1), (1, sl 4 cs_Debt a2)], [], 0⟩ (by kernel_rfl) (leB rfl) ?_
  refine w_seq (fun K hK_43350 => w_reg0 ?_)
  obtain ⟨x_43351, h_43352, h⟩ := bind_some' h
  refine dd_one 0 (.call ⟨.value (.func 9), #[], #[]⟩) (some 14) (by kernel_rfl) (o_callP (g_estoppellaw42_head_ok h_43352) (by kernel_rfl) rfl) ?_
  refine ops_fin' hK_43350 ⟨[(0, I a1), (1, sl 4 cs_Debt a2), (5, B x_43351)], [], 0⟩ (by kernel_rfl) (leB rfl) ?_
  refine w_assoc ?_
  refine w_seq (fun K hK_43353 => w_reg0 ?_)
  refine dd_run 0 1 rfl (by kernel_rfl) ?_
  refine dd_one 1 (.call ⟨.builtin .len, #[(.tmp 15)], #[22]⟩) (some 16) (by kernel_rfl) (o_pure (I (a2.length : Int)) (ev_len_sl (e := 38) (ty := 0) (k := 4) (c := cs_Debt) (by kernel_rfl) (by kernel_rfl)) rfl) ?_
  refine ops_fin' hK_43353 ⟨[(0, I a1), (1, sl 4 cs_Debt a2), (5, B x_43351), (17, B (decide ((a2.length : Int) > 400)))], [], 0⟩ (by kernel_rfl) (leB rfl) ?_
  refine w_seq (fun K hK_43355 => ?_)
  refine w_ite h (by kernel_rfl) (fun h_43356 h => ?_) (fun h_43356 h => ?_)
  · refine w_reg ⟨[(4, B x_43351)], [], 0⟩ (by kernel_rfl) (leB rfl) ?_
    refine w_ret ?_
    obtain rfl := ((Option.some.inj h).symm).symm
    exact ret_leaf (.inl rfl) ⟨[(4, B x_43351)], [], 0⟩ (to_ren [] (leB rfl) (by kernel_rfl) (by kernel_rfl) (renE_of (by kernel_rfl) (by kernel_rfl)) trivial) [B x_43351] (by kernel_rfl) (by kernel_rfl) (leB rfl) (by kernel_rfl) trivial
  · refine w_skip ?_
    refine hK_43355 _ ⟨[(0, I a1), (1, sl 4 cs_Debt a2), (5, B x_43351)], [], 0⟩ (to_trim (by kernel_rfl) (leB rfl)) ?_
    refine w_seq (fun K hK_43359 => w_reg0 ?_)
    refine dd_run 0 2 rfl (by kernel_rfl) ?_
    obtain ⟨x_43360, h_43361, h⟩ := bind_some' h
    refine dd_one 2 (.call ⟨.value (.func 14), #[(.tmp 20), (.tmp 21)], #[3, 22]⟩) (some 22) (by kernel_rfl) (o_callP (g_netting_Net_ok h_43361) (by kernel_rfl) rfl) ?_
    refine ops_fin' hK_43359 ⟨[(0, I a1), (1, sl 4 cs_Debt a2), (5, B x_43351), (6, sl 4 cs_Debt x_43360.1), (7, I x_43360.2)], [], 0⟩ (by kernel_rfl) (leB rfl) ?_
    refine w_seq (fun K hK_43364 => w_reg0 ?_)
    refine dd_run 0 2 rfl (by kernel_rfl) ?_
    obtain ⟨x_43365, h_43366, h⟩ := bind_some' h
    refine dd_one 2 (.call ⟨.value (.func 12), #[(.tmp 26), (.tmp 27)], #[3, 22]⟩) (some 28) (by kernel_rfl) (o_callP (g_netting_Pairs_ok h_43366) (by kernel_rfl) rfl) ?_
    refine ops_fin' hK_43364 ⟨[(0, I a1), (5, B x_43351), (6, sl 4 cs_Debt x_43360.1), (7, I x_43360.2), (8, sl 4 cs_Debt x_43365.1), (9, I x_43365.2)], [], 0⟩ (by kernel_rfl) (leB rfl) ?_
    refine w_seq (fun K hK_43369 => w_reg0 ?_)
    refine dd_run 0 2 rfl (by kernel_rfl) ?_
    obtain ⟨x_43370, h_43371, h⟩ := bind_some' h
    refine dd_one 2 (.call ⟨.value (.func 14), #[(.tmp 32), (.tmp 33)], #[3, 22]⟩) (some 34) (by kernel_rfl) (o_callP (g_netting_Net_ok h_43371) (by kernel_rfl) rfl) ?_
    refine ops_fin' hK_43369 ⟨[(0, I a1), (5, B x_43351), (6, sl 4 cs_Debt x_43360.1), (7, I x_43360.2), (8, sl 4 cs_Debt x_43365.1), (9, I x_43365.2), (10, sl 4 cs_Debt x_43370.1), (11, I x_43370.2)], [], 0⟩ (by kernel_rfl) (leB rfl) ?_
    refine w_seq (fun K hK_43374 => w_reg0 ?_)
    refine dd_run 0 2 rfl (by kernel_rfl) ?_
    obtain ⟨x_43375, h_43376, h⟩ := bind_some' h
    refine dd_one 2 (.call ⟨.value (.func 12), #[(.tmp 38), (.tmp 39)], #[3, 22]⟩) (some 40) (by kernel_rfl) (o_callP (g_netting_Pairs_ok h_43376) (by kernel_rfl) rfl) ?_
    refine ops_fin' hK_43374 ⟨[(5, B x_43351), (6, sl 4 cs_Debt x_43360.1), (7, I x_43360.2), (8, sl 4 cs_Debt x_43365.1), (9, I x_43365.2), (10, sl 4 cs_Debt x_43370.1), (11, I x_43370.2), (12, sl 4 cs_Debt x_43375.1), (13, I x_43375.2)], [], 0⟩ (by kernel_rfl) (leB rfl) ?_
    refine w_assoc ?_
    refine w_cut h (fun (e_43382 : Bool) => ⟨[(5, B x_43351), (8, sl 4 cs_Debt x_43365.1), (9, I x_43365.2), (12, sl 4 cs_Debt x_43375.1), (13, I x_43375.2), (58, B e_43382)], [], 0⟩) (fun o h h_43383 K hK_43384 => ?_) (fun e_43382 h => ?_)
    · refine w_reg0 ?_
      refine dd_run 0 3 rfl (by kernel_rfl) ?_
      refine ite_both h (fun h_43385 h => ?_) (fun h_43385 h => ?_)
      · refine dd_runG 3 5 2 true rfl (b := (x_43360.2 == 0)) (by kernel_rfl) h_43385 (by kernel_rfl) ?_
        refine dd_one 5 (.pick (.tmp 45) (.tmp 47) (.const (.bool false))) (some 48) (by kernel_rfl) (o_pure (B (x_43370.2 != 2)) (ev_pickT h_43385 (by kernel_rfl) (by kernel_rfl)) rfl) ?_
        refine dd_run 6 7 rfl (by kernel_rfl) ?_
        refine ite_both h (fun h_43386 h => ?_) (fun h_43386 h => ?_)
        · refine dd_runG 7 10 6 true rfl (b := (x_43370.2 != 2)) (by kernel_rfl) h_43386 (by kernel_rfl) ?_
          refine ite_both h (fun h_43387 h => ?_) (fun h_43387 h => ?_)
          · refine dd_skip 10 14 9 false rfl (b := (x_43370.2 != 0)) (by kernel_rfl) h_43387 (by kernel_rfl) ?_
            refine dd_oneG 14 (.pick (.tmp 52) (.const (.bool true)) (.tmp 56)) (some 57) 6 true (b := (x_43370.2 != 2)) (by kernel_rfl) (by kernel_rfl) h_43386 (o_pure (B true) (ev_pickT h_43387 (by kernel_rfl) (by kernel_rfl)) rfl) ?_
            refine dd_one 15 (.pick (.tmp 49) (.tmp 57) (.const (.bool false))) (some 58) (by kernel_rfl) (o_pure (B true) (ev_pickT h_43386 (by kernel_rfl) (by kernel_rfl)) rfl) ?_
            refine dd_nil 16 rfl ?_
            exact hK_43384 _ _ (Option.some.inj h).symm (to_ren [] (leB rfl) (by kernel_rfl) (by kernel_rfl) (renE_of (by kernel_rfl) (by kernel_rfl)) trivial)
          · refine dd_runG 10 12 9 false rfl (b := (x_43370.2 != 0)) (by kernel_rfl) h_43387 (by kernel_rfl) ?_
            obtain ⟨x_43388, h_43389, h⟩ := bind_some' h
            refine dd_oneG 12 (.call ⟨.value (.func 19), #[(.tmp 53), (.tmp 54)], #[22, 22]⟩) (some 55) 9 false (b := (x_43370.2 != 0)) (by kernel_rfl) (by kernel_rfl) h_43387 (o_callP (g_estoppelref42_Same_ok h_43389) (by kernel_rfl) rfl) ?_
            refine dd_runG 13 14 9 false rfl (b := (x_43370.2 != 0)) (by kernel_rfl) h_43387 (by kernel_rfl) ?_
            refine dd_oneG 14 (.pick (.tmp 52) (.const (.bool true)) (.tmp 56)) (some 57) 6 true (b := (x_43370.2 != 2)) (by kernel_rfl) (by kernel_rfl) h_43386 (o_pure (B (!x_43388)) (ev_pickF h_43387 (by kernel_rfl) (by kernel_rfl)) rfl) ?_
            refine dd_one 15 (.pick (.tmp 49) (.tmp 57) (.const (.bool false))) (some 58) (by kernel_rfl) (o_pure (B (!x_43388)) (ev_pickT h_43386 (by kernel_rfl) (by kernel_rfl)) rfl) ?_
            refine dd_nil 16 rfl ?_
            exact hK_43384 _ _ (Option.some.inj h).symm (to_ren [] (leB rfl) (by kernel_rfl) (by kernel_rfl) (renE_of (by kernel_rfl) (by kernel_rfl)) trivial)
        · refine dd_skip 7 10 6 true rfl (b := (x_43370.2 != 2)) (by kernel_rfl) h_43386 (by kernel_rfl) ?_
          refine dd_skipU 10 14 9 false rfl (by kernel_rfl) (by kernel_rfl) ?_
          refine dd_skip 14 15 6 true rfl (b := (x_43370.2 != 2)) (by kernel_rfl) h_43386 (by kernel_rfl) ?_
          refine dd_one 15 (.pick (.tmp 49) (.tmp 57) (.const (.bool false))) (some 58) (by kernel_rfl) (o_pure (B false) (ev_pickF h_43386 (by kernel_rfl) (by kernel_rfl)) rfl) ?_
          refine dd_nil 16 rfl ?_
          exact hK_43384 _ _ (Option.some.inj h).symm (to_ren [] (leB rfl) (by kernel_rfl) (by kernel_rfl) (renE_of (by kernel_rfl) (by kernel_rfl)) trivial)
      · refine dd_skip 3 5 2 true rfl (b := (x_43360.2 == 0)) (by kernel_rfl) h_43385 (by kernel_rfl) ?_
        refine dd_one 5 (.pick (.tmp 45) (.tmp 47) (.const (.bool false))) (some 48) (by kernel_rfl) (o_pure (B false) (ev_pickF h_43385 (by kernel_rfl) (by kernel_rfl)) rfl) ?_
        refine dd_run 6 7 rfl (by kernel_rfl) ?_
        refine dd_skip 7 10 6 true rfl (b := false) (by kernel_rfl) rfl (by kernel_rfl) ?_
        refine dd_skipU 10 14 9 false rfl (by kernel_rfl) (by kernel_rfl) ?_
        refine dd_skip 14 15 6 true rfl (b := false) (by kernel_rfl) rfl (by kernel_rfl) ?_
        refine dd_run 15 16 rfl (by kernel_rfl) ?_
        refine dd_nil 16 rfl ?_
        exact hK_43384 _ _ (Option.some.inj h).symm (to_ren [] (leB rfl) (by kernel_rfl) (by kernel_rfl) (renE_of (by kernel_rfl) (by kernel_rfl)) trivial)
    · refine w_seq (fun K hK_43391 => ?_)
      refine w_ite h (by kernel_rfl) (fun h_43392 h => ?_) (fun h_43392 h => ?_)
      · refine w_reg ⟨[(4, B false)], [], 0⟩ (by kernel_rfl) (leB rfl) ?_
        refine w_ret ?_
        obtain rfl := ((Option.some.inj h).symm).symm
        exact ret_leaf (.inl rfl) ⟨[(4, B false)], [], 0⟩ (to_ren [] (leB rfl) (by kernel_rfl) (by kernel_rfl) (renE_of (by kernel_rfl) (by kernel_rfl)) trivial) [B false] (by kernel_rfl) (by kernel_rfl) (leB rfl) (by kernel_rfl) trivial
      · refine w_skip ?_
        refine hK_43391 _ ⟨[(5, B x_43351), (8, sl 4 cs_Debt x_43365.1), (9, I x_43365.2), (12, sl 4 cs_Debt x_43375.1), (13, I x_43375.2)], [], 0⟩ (to_trim (by kernel_rfl) (leB rfl)) ?_
        refine w_seq (fun K hK_43398 => w_reg0 ?_)
        refine dd_run 0 2 rfl (by kernel_rfl) ?_
        refine ite_both h (fun h_43399 h => ?_) (fun h_43399 h => ?_)
        · refine dd_runG 2 5 1 true rfl (b := x_43351) (by kernel_rfl) h_43399 (by kernel_rfl) ?_
          refine ite_both h (fun h_43400 h => ?_) (fun h_43400 h => ?_)
          · refine dd_skip 5 8 4 false rfl (b := (x_43365.2 != 0)) (by kernel_rfl) h_43400 (by kernel_rfl) ?_
            refine dd_skipU 8 11 7 true rfl (by kernel_rfl) (by kernel_rfl) ?_
            refine dd_skip 11 12 4 false rfl (b := (x_43365.2 != 0)) (by kernel_rfl) h_43400 (by kernel_rfl) ?_
            refine dd_oneG 12 (.pick (.tmp 63) (.const (.bool true)) (.tmp 70)) (some 71) 1 true (b := x_43351) (by kernel_rfl) (by kernel_rfl) h_43399 (o_pure (B true) (ev_pickT h_43400 (by kernel_rfl) (by kernel_rfl)) rfl) ?_
            refine dd_one 13 (.pick (.tmp 60) (.tmp 71) (.const (.bool false))) (some 72) (by kernel_rfl) (o_pure (B true) (ev_pickT h_43399 (by kernel_rfl) (by kernel_rfl)) rfl) ?_
            refine ops_fin' hK_43398 ⟨[(4, B true)], [], 0⟩ (by kernel_rfl) (leB rfl) ?_
            refine w_ret ?_
            obtain rfl := ((Option.some.inj h).symm).symm
            exact ret_leaf (.inl rfl) ⟨[(4, B true)], [], 0⟩ (to_ren [] (leB rfl) (by kernel_rfl) (by kernel_rfl) (renE_of (by kernel_rfl) (by kernel_rfl)) trivial) [B true] (by kernel_rfl) (by kernel_rfl) (leB rfl) (by kernel_rfl) trivial
          · refine dd_runG 5 8 4 false rfl (b := (x_43365.2 != 0)) (by kernel_rfl) h_43400 (by kernel_rfl) ?_
            refine ite_both h (fun h_43401 h => ?_) (fun h_43401 h => ?_)
            · refine dd_runG 8 10 7 true rfl (b := (x_43375.2 == 0)) (by kernel_rfl) h_43401 (by kernel_rfl) ?_
              obtain ⟨x_43402, h_43403, h⟩ := bind_some' h
              refine dd_oneG 10 (.call ⟨.value (.func 19), #[(.tmp 67), (.tmp 68)], #[22, 22]⟩) (some 69) 7 true (b := (x_43375.2 == 0)) (by kernel_rfl) (by kernel_rfl) h_43401 (o_callP (g_estoppelref42_Same_ok h_43403) (by kernel_rfl) rfl) ?_
              refine dd_oneG 11 (.pick (.tmp 66) (.tmp 69) (.const (.bool false))) (some 70) 4 false (b := (x_43365.2 != 0)) (by kernel_rfl) (by kernel_rfl) h_43400 (o_pure (B x_43402) (ev_pickT h_43401 (by kernel_rfl) (by kernel_rfl)) rfl) ?_
              refine dd_oneG 12 (.pick (.tmp 63) (.const (.bool true)) (.tmp 70)) (some 71) 1 true (b := x_43351) (by kernel_rfl) (by kernel_rfl) h_43399 (o_pure (B x_43402) (ev_pickF h_43400 (by kernel_rfl) (by kernel_rfl)) rfl) ?_
              refine dd_one 13 (.pick (.tmp 60) (.tmp 71) (.const (.bool false))) (some 72) (by kernel_rfl) (o_pure (B x_43402) (ev_pickT h_43399 (by kernel_rfl) (by kernel_rfl)) rfl) ?_
              refine ops_fin' hK_43398 ⟨[(4, B x_43402)], [], 0⟩ (by kernel_rfl) (leB rfl) ?_
              refine w_ret ?_
              obtain rfl := ((Option.some.inj h).symm).symm
              exact ret_leaf (.inl rfl) ⟨[(4, B x_43402)], [], 0⟩ (to_ren [] (leB rfl) (by kernel_rfl) (by kernel_rfl) (renE_of (by kernel_rfl) (by kernel_rfl)) trivial) [B x_43402] (by kernel_rfl) (by kernel_rfl) (leB rfl) (by kernel_rfl) trivial
            · refine dd_skip 8 11 7 true rfl (b := (x_43375.2 == 0)) (by kernel_rfl) h_43401 (by kernel_rfl) ?_
              refine dd_oneG 11 (.pick (.tmp 66) (.tmp 69) (.const (.bool false))) (some 70) 4 false (b := (x_43365.2 != 0)) (by kernel_rfl) (by kernel_rfl) h_43400 (o_pure (B false) (ev_pickF h_43401 (by kernel_rfl) (by kernel_rfl)) rfl) ?_
              refine dd_oneG 12 (.pick (.tmp 63) (.const (.bool true)) (.tmp 70)) (some 71) 1 true (b := x_43351) (by kernel_rfl) (by kernel_rfl) h_43399 (o_pure (B false) (ev_pickF h_43400 (by kernel_rfl) (by kernel_rfl)) rfl) ?_
              refine dd_one 13 (.pick (.tmp 60) (.tmp 71) (.const (.bool false))) (some 72) (by kernel_rfl) (o_pure (B false) (ev_pickT h_43399 (by kernel_rfl) (by kernel_rfl)) rfl) ?_
              refine ops_fin' hK_43398 ⟨[(4, B false)], [], 0⟩ (by kernel_rfl) (leB rfl) ?_
              refine w_ret ?_
              obtain rfl := ((Option.some.inj h).symm).symm
              exact ret_leaf (.inl rfl) ⟨[(4, B false)], [], 0⟩ (to_ren [] (leB rfl) (by kernel_rfl) (by kernel_rfl) (renE_of (by kernel_rfl) (by kernel_rfl)) trivial) [B false] (by kernel_rfl) (by kernel_rfl) (leB rfl) (by kernel_rfl) trivial
        · refine dd_skip 2 5 1 true rfl (b := x_43351) (by kernel_rfl) h_43399 (by kernel_rfl) ?_
          refine dd_skipU 5 8 4 false rfl (by kernel_rfl) (by kernel_rfl) ?_
          refine dd_skipU 8 11 7 true rfl (by kernel_rfl) (by kernel_rfl) ?_
          refine dd_skipU 11 12 4 false rfl (by kernel_rfl) (by kernel_rfl) ?_
          refine dd_skip 12 13 1 true rfl (b := x_43351) (by kernel_rfl) h_43399 (by kernel_rfl) ?_
          refine dd_one 13 (.pick (.tmp 60) (.tmp 71) (.const (.bool false))) (some 72) (by kernel_rfl) (o_pure (B false) (ev_pickF h_43399 (by kernel_rfl) (by kernel_rfl)) rfl) ?_
          refine ops_fin' hK_43398 ⟨[(4, B false)], [], 0⟩ (by kernel_rfl) (leB rfl) ?_
          refine w_ret ?_
          obtain rfl := ((Option.some.inj h).symm).symm
          exact ret_leaf (.inl rfl) ⟨[(4, B false)], [], 0⟩ (to_ren [] (leB rfl) (by kernel_rfl) (by kernel_rfl) (renE_of (by kernel_rfl) (by kernel_rfl)) trivial) [B false] (by kernel_rfl) (by kernel_rfl) (leB rfl) (by kernel_rfl) trivial
/-- estoppel/estoppellaw42.NettingLess -/
def g_estoppellaw42_NettingLess (a1 : Int) (a2 : List D.Debt) : Option (Bool) :=
  (g_estoppellaw42_head).bind fun x_43491 =>
  if (decide ((a2.length : Int) > 400)) = true then
  some x_43491
  else
  (g_netting_Positions a1 a2).bind fun x_43500 =>
  (g_netting_Net a1 a2).bind fun x_43505 =>
  bindF (ρ := Bool) (
  if (x_43500.2 != 0) = true then
  some (.inl true)
  else
  some (.inl (x_43505.2 != 0))) (fun (e_43508 : Bool) =>
  if e_43508 = true then
  some x_43491
  else
  (g_estoppelref42_Amounts x_43505.1).bind fun x_43520 =>
  (g_estoppelref42_Total x_43520).bind fun x_43522 =>
  (g_estoppelref42_Total x_43500.1).bind fun x_43527 =>
  (g_estoppelref42_Amounts a2).bind fun x_43534 =>
  (g_estoppelref42_Total x_43534).bind fun x_43536 =>
  (g_ratio_Div x_43527.1 (D.Ratio.mk 2 1)).bind fun x_43541 =>
  if x_43491 = true then
  if (!x_43522.2) = true then
  some true
  else
  if (!x_43527.2) = true then
  if (!x_43536.2) = true then
  some true
  else
  (g_ratio_Cmp x_43522.1 x_43536.1).bind fun x_43562 =>
  some (decide (x_43562 ≤ 0))
  else
  if (x_43541.2 != 0) = true then
  if (!x_43536.2) = true then
  some true
  else
  (g_ratio_Cmp x_43522.1 x_43536.1).bind fun x_43566 =>
  some (decide (x_43566 ≤ 0))
  else
  if (decide (x_43522.1 = x_43541.1)) = true then
  if (!x_43536.2) = true then
  some true
  else
  (g_ratio_Cmp x_43522.1 x_43536.1).bind fun x_43570 =>
  some (decide (x_43570 ≤ 0))
  else
  some false
  else
  some false)
set_option maxHeartbeats 4000000 in
theorem g_estoppellaw42_NettingLess_ok {a1 : Int} {a2 : List D.Debt} {res : Bool} (h : g_estoppellaw42_NettingLess a1 a2 = some res) : SpecK Try.prog [] 8 [I a1, sl 4 cs_Debt a2] [] 0 (B res) [] 0 := by
  refine ⟨spec_of_wp Try.func8 (by kernel_rfl) rfl Try.ntmps8 (by rw [Try.results8]) (leB rfl) ?_, by kernel_rfl, trivial, by kernel_rfl, trivial, by kernel_rfl⟩
  unfold g_estoppellaw42_NettingLess at h
  refine w_reg ⟨[(0, I a1), (1, sl 4 cs_Debt a2)], [], 0⟩ (by kernel_rfl) (leB rfl) ?_
  refine w_seq (fun K hK_43490 => w_reg0 ?_)
  obtain ⟨x_43491, h_43492, h⟩ := bind_some' h
  refine dd_one 0 (.call ⟨.value (.func 9), #[], #[]⟩) (some 18) (by kernel_rfl) (o_callP (g_estoppellaw42_head_ok h_43492) (by kernel_rfl) rfl) ?_
  refine ops_fin' hK_43490 ⟨[(0, I a1), (1, sl 4 cs_Debt a2), (5, B x_43491)], [], 0⟩ (by kernel_rfl) (leB rfl) ?_
  refine w_assoc ?_
  refine w_seq (fun K hK_43493 => w_reg0 ?_)
  refine dd_run 0 1 rfl (by kernel_rfl) ?_
  refine dd_one 1 (.call ⟨.builtin .len, #[(.tmp 19)], #[22]⟩) (some 20) (by kernel_rfl) (o_pure (I (a2.length : Int)) (ev_len_sl (e := 38) (ty := 0) (k := 4) (c := cs_Debt) (by kernel_rfl) (by kernel_rfl)) rfl) ?_
  refine ops_fin' hK_43493 ⟨[(0, I a1), (1, sl 4 cs_Debt a2), (5, B x_43491), (21, B (decide ((a2.length : Int) > 400)))], [], 0⟩ (by kernel_rfl) (leB rfl) ?_
  refine w_seq (fun K hK_43495 => ?_)
  refine w_ite h (by kernel_rfl) (fun h_43496 h => ?_) (fun h_43496 h => ?_)
  · refine w_reg ⟨[(4, B x_43491)], [], 0⟩ (by kernel_rfl) (leB rfl) ?_
    refine w_ret ?_
    obtain rfl := ((Option.some.inj h).symm).symm
    exact ret_leaf (.inl rfl) ⟨[(4, B x_43491)], [], 0⟩ (to_ren [] (leB rfl) (by kernel_rfl) (by kernel_rfl) (renE_of (by kernel_rfl) (by kernel_rfl)) trivial) [B x_43491] (by kernel_rfl) (by kernel_rfl) (leB rfl) (by kernel_rfl) trivial
  · refine w_skip ?_
    refine hK_43495 _ ⟨[(0, I a1), (1, sl 4 cs_Debt a2), (5, B x_43491)], [], 0⟩ (to_trim (by kernel_rfl) (leB rfl)) ?_
    refine w_seq (fun K hK_43499 => w_reg0 ?_)
    refine dd_run 0 2 rfl (by kernel_rfl) ?_
    obtain ⟨x_43500, h_43501, h⟩ := bind_some' h
    refine dd_one 2 (.call ⟨.value (.func 10), #[(.tmp 24), (.tmp 25)], #[3, 22]⟩) (some 26) (by kernel_rfl) (o_callP (g_netting_Positions_ok h_43501) (by kernel_rfl) rfl) ?_
    refine ops_fin' hK_43499 ⟨[(0, I a1), (1, sl 4 cs_Debt a2), (5, B x_43491), (6, sl 2 cs_Ratio x_43500.1), (7, I x_43500.2)], [], 0⟩ (by kernel_rfl) (leB rfl) ?_
    refine w_seq (fun K hK_43504 => w_reg0 ?_)
    refine dd_run 0 2 rfl (by kernel_rfl) ?_
    obtain ⟨x_43505, h_43506, h⟩ := bind_some' h
    refine dd_one 2 (.call ⟨.value (.func 14), #[(.tmp 30), (.tmp 31)], #[3, 22]⟩) (some 32) (by kernel_rfl) (o_callP (g_netting_Net_ok h_43506) (by kernel_rfl) rfl) ?_
    refine ops_fin' hK_43504 ⟨[(1, sl 4 cs_Debt a2), (5, B x_43491), (6, sl 2 cs_Ratio x_43500.1), (7, I x_43500.2), (8, sl 4 cs_Debt x_43505.1), (9, I x_43505.2)], [], 0⟩ (by kernel_rfl) (leB rfl) ?_
    refine w_assoc ?_
    refine w_cut h (fun (e_43508 : Bool) => ⟨[(1, sl 4 cs_Debt a2), (5, B x_43491), (6, sl 2 cs_Ratio x_43500.1), (8, sl 4 cs_Debt x_43505.1), (40, B e_43508)], [], 0⟩) (fun o h h_43509 K hK_43510 => ?_) (fun e_43508 h => ?_)
    · refine w_reg0 ?_
      refine dd_run 0 3 rfl (by kernel_rfl) ?_
      refine ite_both h (fun h_43511 h => ?_) (fun h_43511 h => ?_)
      · refine dd_skip 3 5 2 false rfl (b := (x_43500.2 != 0)) (by kernel_rfl) h_43511 (by kernel_rfl) ?_
        refine dd_one 5 (.pick (.tmp 37) (.const (.bool true)) (.tmp 39)) (some 40) (by kernel_rfl) (o_pure (B true) (ev_pickT h_43511 (by kernel_rfl) (by kernel_rfl)) rfl) ?_
        refine dd_nil 6 rfl ?_
        exact hK_43510 _ _ (Option.some.inj h).symm (to_ren [] (leB rfl) (by kernel_rfl) (by kernel_rfl) (renE_of (by kernel_rfl) (by kernel_rfl)) trivial)
      · refine dd_runG 3 5 2 false rfl (b := (x_43500.2 != 0)) (by kernel_rfl) h_43511 (by kernel_rfl) ?_
        refine dd_one 5 (.pick (.tmp 37) (.const (.bool true)) (.tmp 39)) (some 40) (by kernel_rfl) (o_pure (B (x_43505.2 != 0)) (ev_pickF h_43511 (by kernel_rfl) (by kernel_rfl)) rfl) ?_
        refine dd_nil 6 rfl ?_
        exact hK_43510 _ _ (Option.some.inj h).symm (to_ren [] (leB rfl) (by kernel_rfl) (by kernel_rfl) (renE_of (by kernel_rfl) (by kernel_rfl)) trivial)
    · refine w_seq (fun K hK_43513 => ?_)
      refine w_ite h (by kernel_rfl) (fun h_43514 h => ?_) (fun h_43514 h => ?_)
      · refine w_reg ⟨[(4, B x_43491)], [], 0⟩ (by kernel_rfl) (leB rfl) ?_
        refine w_ret ?_
        obtain rfl := ((Option.some.inj h).symm).symm
        exact ret_leaf (.inl rfl) ⟨[(4, B x_43491)], [], 0⟩ (to_ren [] (leB rfl) (by kernel_rfl) (by kernel_rfl) (renE_of (by kernel_rfl) (by kernel_rfl)) trivial) [B x_43491] (by kernel_rfl) (by kernel_rfl) (leB rfl) (by kernel_rfl) trivial
      · refine w_skip ?_
        refine hK_43513 _ ⟨[(1, sl 4 cs_Debt a2), (5, B x_43491), (6, sl 2 cs_Ratio x_43500.1), (8, sl 4 cs_Debt x_43505.1)], [], 0⟩ (to_trim (by kernel_rfl) (leB rfl)) ?_
        refine w_seq (fun K hK_43519 => w_reg0 ?_)
        refine dd_run 0 1 rfl (by kernel_rfl) ?_
        obtain ⟨x_43520, h_43521, h⟩ := bind_some' h
        refine dd_one 1 (.call ⟨.value (.func 22), #[(.tmp 43)], #[22]⟩) (some 44) (by kernel_rfl) (o_callP (g_estoppelref42_Amounts_ok h_43521) (by kernel_rfl) rfl) ?_
        obtain ⟨x_43522, h_43523, h⟩ := bind_some' h
        refine dd_one 2 (.call ⟨.value (.func 21), #[(.tmp 44)], #[24]⟩) (some 45) (by kernel_rfl) (o_callP (g_estoppelref42_Total_ok h_43523) (by kernel_rfl) rfl) ?_
        refine ops_fin' hK_43519 ⟨[(1, sl 4 cs_Debt a2), (5, B x_43491), (6, sl 2 cs_Ratio x_43500.1), (10, .ptr 0 0), (11, B x_43522.2)], [(0, ⟨34, 0, (cs_Ratio x_43522.1)⟩)], 1⟩ (by kernel_rfl) (leB rfl) ?_
        refine w_seq (fun K hK_43526 => w_reg0 ?_)
        refine dd_run 0 1 rfl (by kernel_rfl) ?_
        obtain ⟨x_43527, h_43528, h⟩ := bind_some' h
        refine dd_one 1 (.call ⟨.value (.func 21), #[(.tmp 49)], #[24]⟩) (some 50) (by kernel_rfl) (o_callP (g_estoppelref42_Total_ok h_43528) (by kernel_rfl) rfl) ?_
        refine ops_fin' hK_43526 ⟨[(1, sl 4 cs_Debt a2), (5, B x_43491), (10, .ptr 0 0), (11, B x_43522.2), (12, .ptr 1 0), (13, B x_43527.2)], [(1, ⟨34, 0, (cs_Ratio x_43527.1)⟩), (0, ⟨34, 0, (cs_Ratio x_43522.1)⟩)], 2⟩ (by kernel_rfl) (leB rfl) ?_
        refine w_seq (fun K hK_43533 => w_reg0 ?_)
        refine dd_run 0 1 rfl (by kernel_rfl) ?_
        obtain ⟨x_43534, h_43535, h⟩ := bind_some' h
        refine dd_one 1 (.call ⟨.value (.func 22), #[(.tmp 54)], #[22]⟩) (some 55) (by kernel_rfl) (o_callP (g_estoppelref42_Amounts_ok h_43535) (by kernel_rfl) rfl) ?_
        obtain ⟨x_43536, h_43537, h⟩ := bind_some' h
        refine dd_one 2 (.call ⟨.value (.func 21), #[(.tmp 55)], #[24]⟩) (some 56) (by kernel_rfl) (o_callP (g_estoppelref42_Total_ok h_43537) (by kernel_rfl) rfl) ?_
        refine ops_fin' hK_43533 ⟨[(5, B x_43491), (10, .ptr 0 0), (11, B x_43522.2), (12, .ptr 1 0), (13, B x_43527.2), (14, .ptr 2 0), (15, B x_43536.2)], [(2, ⟨34, 0, (cs_Ratio x_43536.1)⟩), (1, ⟨34, 0, (cs_Ratio x_43527.1)⟩), (0, ⟨34, 0, (cs_Ratio x_43522.1)⟩)], 3⟩ (by kernel_rfl) (leB rfl) ?_
        refine w_seq (fun K hK_43540 => w_reg0 ?_)
        refine dd_run 0 2 rfl (by kernel_rfl) ?_
        obtain ⟨x_43541, h_43542, h⟩ := bind_some' h
        refine dd_one 2 (.call ⟨.value (.func 23), #[(.tmp 60), (.tmp 61)], #[34, 34]⟩) (some 62) (by kernel_rfl) (o_callP (g_ratio_Div_ok h_43542) (by kernel_rfl) rfl) ?_
        refine ops_fin' hK_43540 ⟨[(5, B x_43491), (10, .ptr 0 0), (11, B x_43522.2), (13, B x_43527.2), (14, .ptr 2 0), (15, B x_43536.2), (16, .ptr 3 0), (17, I x_43541.2)], [(3, ⟨34, 0, (cs_Ratio x_43541.1)⟩), (2, ⟨34, 0, (cs_Ratio x_43536.1)⟩), (1, ⟨34, 0, (cs_Ratio x_43527.1)⟩), (0, ⟨34, 0, (cs_Ratio x_43522.1)⟩)], 4⟩ (by kernel_rfl) (leB rfl) ?_
        refine w_seq (fun K hK_43557 => w_reg0 ?_)
        refine dd_run 0 2 rfl (by kernel_rfl) ?_
        refine ite_both h (fun h_43558 h => ?_) (fun h_43558 h => ?_)
        · refine dd_runG 2 5 1 true rfl (b := x_43491) (by kernel_rfl) h_43558 (by kernel_rfl) ?_
          refine ite_both h (fun h_43559 h => ?_) (fun h_43559 h => ?_)
          · refine dd_skip 5 7 4 false rfl (b := (!x_43522.2)) (by kernel_rfl) h_43559 (by kernel_rfl) ?_
            refine dd_oneG 7 (.pick (.tmp 69) (.const (.bool true)) (.tmp 71)) (some 72) 1 true (b := x_43491) (by kernel_rfl) (by kernel_rfl) h_43558 (o_pure (B true) (ev_pickT h_43559 (by kernel_rfl) (by kernel_rfl)) rfl) ?_
            refine dd_runG 8 9 1 true rfl (b := x_43491) (by kernel_rfl) h_43558 (by kernel_rfl) ?_
            refine dd_skip 9 11 8 false rfl (b := true) (by kernel_rfl) rfl (by kernel_rfl) ?_
            refine dd_runG 11 13 1 true rfl (b := x_43491) (by kernel_rfl) h_43558 (by kernel_rfl) ?_
            refine dd_skip 13 16 12 false rfl (b := true) (by kernel_rfl) rfl (by kernel_rfl) ?_
            refine dd_runG 16 17 1 true rfl (b := x_43491) (by kernel_rfl) h_43558 (by kernel_rfl) ?_
            refine dd_one 17 (.pick (.tmp 66) (.tmp 81) (.const (.bool false))) (some 82) (by kernel_rfl) (o_pure (B true) (ev_pickT h_43558 (by kernel_rfl) (by kernel_rfl)) rfl) ?_
            refine dd_run 18 19 rfl (by kernel_rfl) ?_
            refine dd_runG 19 22 18 true rfl (b := true) (by kernel_rfl) rfl (by kernel_rfl) ?_
            refine dd_skip 22 24 21 false rfl (b := (!x_43522.2)) (by kernel_rfl) h_43559 (by kernel_rfl) ?_
            refine dd_oneG 24 (.pick (.tmp 86) (.const (.bool true)) (.tmp 88)) (some 89) 18 true (b := true) (by kernel_rfl) (by kernel_rfl) rfl (o_pure (B true) (ev_pickT h_43559 (by kernel_rfl) (by kernel_rfl)) rfl) ?_
            refine dd_runG 25 26 18 true rfl (b := true) (by kernel_rfl) rfl (by kernel_rfl) ?_
            refine dd_skip 26 30 25 false rfl (b := true) (by kernel_rfl) rfl (by kernel_rfl) ?_
            refine dd_runG 30 31 18 true rfl (b := true) (by kernel_rfl) rfl (by kernel_rfl) ?_
            refine ops_fin' hK_43557 ⟨[(4, B true)], [(3, ⟨34, 0, (cs_Ratio x_43541.1)⟩), (2, ⟨34, 0, (cs_Ratio x_43536.1)⟩), (1, ⟨34, 0, (cs_Ratio x_43527.1)⟩), (0, ⟨34, 0, (cs_Ratio x_43522.1)⟩)], 4⟩ (by kernel_rfl) (leB rfl) ?_
            refine w_ret ?_
            obtain rfl := ((Option.some.inj h).symm).symm
            exact ret_leaf (.inl rfl) ⟨[(4, B true)], [], 0⟩ (to_ren [] (leB rfl) (by kernel_rfl) (by kernel_rfl) (renE_of (by kernel_rfl) (by kernel_rfl)) trivial) [B true] (by kernel_rfl) (by kernel_rfl) (leB rfl) (by kernel_rfl) trivial
          · refine dd_runG 5 7 4 false rfl (b := (!x_43522.2)) (by kernel_rfl) h_43559 (by kernel_rfl) ?_
            refine dd_oneG 7 (.pick (.tmp 69) (.const (.bool true)) (.tmp 71)) (some 72) 1 true (b := x_43491) (by kernel_rfl) (by kernel_rfl) h_43558 (o_pure (B (!x_43527.2)) (ev_pickF h_43559 (by kernel_rfl) (by kernel_rfl)) rfl) ?_
            refine dd_runG 8 9 1 true rfl (b := x_43491) (by kernel_rfl) h_43558 (by kernel_rfl) ?_
            refine ite_both h (fun h_43560 h => ?_) (fun h_43560 h => ?_)
            · refine dd_skip 9 11 8 false rfl (b := (!x_43527.2)) (by kernel_rfl) h_43560 (by kernel_rfl) ?_
              refine dd_oneG 11 (.pick (.tmp 73) (.const (.bool true)) (.tmp 75)) (some 76) 1 true (b := x_43491) (by kernel_rfl) (by kernel_rfl) h_43558 (o_pure (B true) (ev_pickT h_43560 (by kernel_rfl) (by kernel_rfl)) rfl) ?_
              refine dd_runG 12 13 1 true rfl (b := x_43491) (by kernel_rfl) h_43558 (by kernel_rfl) ?_
              refine dd_skip 13 16 12 false rfl (b := true) (by kernel_rfl) rfl (by kernel_rfl) ?_
              refine dd_runG 16 17 1 true rfl (b := x_43491) (by kernel_rfl) h_43558 (by kernel_rfl) ?_
              refine dd_one 17 (.pick (.tmp 66) (.tmp 81) (.const (.bool false))) (some 82) (by kernel_rfl) (o_pure (B true) (ev_pickT h_43558 (by kernel_rfl) (by kernel_rfl)) rfl) ?_
              refine dd_run 18 19 rfl (by kernel_rfl) ?_
              refine dd_runG 19 22 18 true rfl (b := true) (by kernel_rfl) rfl (by kernel_rfl) ?_
              refine dd_runG 22 24 21 false rfl (b := (!x_43522.2)) (by kernel_rfl) h_43559 (by kernel_rfl) ?_
              refine dd_oneG 24 (.pick (.tmp 86) (.const (.bool true)) (.tmp 88)) (some 89) 18 true (b := true) (by kernel_rfl) (by kernel_rfl) rfl (o_pure (B (!x_43536.2)) (ev_pickF h_43559 (by kernel_rfl) (by kernel_rfl)) rfl) ?_
              refine dd_runG 25 26 18 true rfl (b := true) (by kernel_rfl) rfl (by kernel_rfl) ?_
              refine ite_both h (fun h_43561 h => ?_) (fun h_43561 h => ?_)
              · refine dd_skip 26 30 25 false rfl (b := (!x_43536.2)) (by kernel_rfl) h_43561 (by kernel_rfl) ?_
                refine dd_oneG 30 (.pick (.tmp 90) (.const (.bool true)) (.tmp 94)) (some 95) 18 true (b := true) (by kernel_rfl) (by kernel_rfl) rfl (o_pure (B true) (ev_pickT h_43561 (by kernel_rfl) (by kernel_rfl)) rfl) ?_
                refine ops_fin' hK_43557 ⟨[(4, B true)], [(3, ⟨34, 0, (cs_Ratio x_43541.1)⟩), (2, ⟨34, 0, (cs_Ratio x_43536.1)⟩), (1, ⟨34, 0, (cs_Ratio x_43527.1)⟩), (0, ⟨34, 0, (cs_Ratio x_43522.1)⟩)], 4⟩ (by kernel_rfl) (leB rfl) ?_
                refine w_ret ?_
                obtain rfl := ((Option.some.inj h).symm).symm
                exact ret_leaf (.inl rfl) ⟨[(4, B true)], [], 0⟩ (to_ren [] (leB rfl) (by kernel_rfl) (by kernel_rfl) (renE_of (by kernel_rfl) (by kernel_rfl)) trivial) [B true] (by kernel_rfl) (by kernel_rfl) (leB rfl) (by kernel_rfl) trivial
              · refine dd_runG 26 28 25 false rfl (b := (!x_43536.2)) (by kernel_rfl) h_43561 (by kernel_rfl) ?_
                obtain ⟨x_43562, h_43563, h⟩ := bind_some' h
                refine dd_oneG 28 (.call ⟨.value (.func 24), #[(.tmp 91), (.tmp 92)], #[34, 34]⟩) (some 93) 25 false (b := (!x_43536.2)) (by kernel_rfl) (by kernel_rfl) h_43561 (o_callP (g_ratio_Cmp_ok h_43563) (by kernel_rfl) rfl) ?_
                refine dd_runG 29 30 25 false rfl (b := (!x_43536.2)) (by kernel_rfl) h_43561 (by kernel_rfl) ?_
                refine dd_oneG 30 (.pick (.tmp 90) (.const (.bool true)) (.tmp 94)) (some 95) 18 true (b := true) (by kernel_rfl) (by kernel_rfl) rfl (o_pure (B (decide (x_43562 ≤ 0))) (ev_pickF h_43561 (by kernel_rfl) (by kernel_rfl)) rfl) ?_
                refine ops_fin' hK_43557 ⟨[(4, B (decide (x_43562 ≤ 0)))], [(3, ⟨34, 0, (cs_Ratio x_43541.1)⟩), (2, ⟨34, 0, (cs_Ratio x_43536.1)⟩), (1, ⟨34, 0, (cs_Ratio x_43527.1)⟩), (0, ⟨34, 0, (cs_Ratio x_43522.1)⟩)], 4⟩ (by kernel_rfl) (leB rfl) ?_
                refine w_ret ?_
                obtain rfl := ((Option.some.inj h).symm).symm
                exact ret_leaf (.inl rfl) ⟨[(4, B (decide (x_43562 ≤ 0)))], [], 0⟩ (to_ren [] (leB rfl) (by kernel_rfl) (by kernel_rfl) (renE_of (by kernel_rfl) (by kernel_rfl)) trivial) [B (decide (x_43562 ≤ 0))] (by kernel_rfl) (by kernel_rfl) (leB rfl) (by kernel_rfl) trivial
            · refine dd_runG 9 11 8 false rfl (b := (!x_43527.2)) (by kernel_rfl) h_43560 (by kernel_rfl) ?_
              refine dd_oneG 11 (.pick (.tmp 73) (.const (.bool true)) (.tmp 75)) (some 76) 1 true (b := x_43491) (by kernel_rfl) (by kernel_rfl) h_43558 (o_pure (B (x_43541.2 != 0)) (ev_pickF h_43560 (by kernel_rfl) (by kernel_rfl)) rfl) ?_
              refine dd_runG 12 13 1 true rfl (b := x_43491) (by kernel_rfl) h_43558 (by kernel_rfl) ?_
              refine ite_both h (fun h_43564 h => ?_) (fun h_43564 h => ?_)
              · refine dd_skip 13 16 12 false rfl (b := (x_43541.2 != 0)) (by kernel_rfl) h_43564 (by kernel_rfl) ?_
                refine dd_oneG 16 (.pick (.tmp 77) (.const (.bool true)) (.tmp 80)) (some 81) 1 true (b := x_43491) (by kernel_rfl) (by kernel_rfl) h_43558 (o_pure (B true) (ev_pickT h_43564 (by kernel_rfl) (by kernel_rfl)) rfl) ?_
                refine dd_one 17 (.pick (.tmp 66) (.tmp 81) (.const (.bool false))) (some 82) (by kernel_rfl) (o_pure (B true) (ev_pickT h_43558 (by kernel_rfl) (by kernel_rfl)) rfl) ?_
                refine dd_run 18 19 rfl (by kernel_rfl) ?_
                refine dd_runG 19 22 18 true rfl (b := true) (by kernel_rfl) rfl (by kernel_rfl) ?_
                refine dd_runG 22 24 21 false rfl (b := (!x_43522.2)) (by kernel_rfl) h_43559 (by kernel_rfl) ?_
                refine dd_oneG 24 (.pick (.tmp 86) (.const (.bool true)) (.tmp 88)) (some 89) 18 true (b := true) (by kernel_rfl) (by kernel_rfl) rfl (o_pure (B (!x_43536.2)) (ev_pickF h_43559 (by kernel_rfl) (by kernel_rfl)) rfl) ?_
                refine dd_runG 25 26 18 true rfl (b := true) (by kernel_rfl) rfl (by kernel_rfl) ?_
                refine ite_both h (fun h_43565 h => ?_) (fun h_43565 h => ?_)
                · refine dd_skip 26 30 25 false rfl (b := (!x_43536.2)) (by kernel_rfl) h_43565 (by kernel_rfl) ?_
                  refine dd_oneG 30 (.pick (.tmp 90) (.const (.bool true)) (.tmp 94)) (some 95) 18 true (b := true) (by kernel_rfl) (by kernel_rfl) rfl (o_pure (B true) (ev_pickT h_43565 (by kernel_rfl) (by kernel_rfl)) rfl) ?_
                  refine ops_fin' hK_43557 ⟨[(4, B true)], [(3, ⟨34, 0, (cs_Ratio x_43541.1)⟩), (2, ⟨34, 0, (cs_Ratio x_43536.1)⟩), (1, ⟨34, 0, (cs_Ratio x_43527.1)⟩), (0, ⟨34, 0, (cs_Ratio x_43522.1)⟩)], 4⟩ (by kernel_rfl) (leB rfl) ?_
                  refine w_ret ?_
                  obtain rfl := ((Option.some.inj h).symm).symm
                  exact ret_leaf (.inl rfl) ⟨[(4, B true)], [], 0⟩ (to_ren [] (leB rfl) (by kernel_rfl) (by kernel_rfl) (renE_of (by kernel_rfl) (by kernel_rfl)) trivial) [B true] (by kernel_rfl) (by kernel_rfl) (leB rfl) (by kernel_rfl) trivial
                · refine dd_runG 26 28 25 false rfl (b := (!x_43536.2)) (by kernel_rfl) h_43565 (by kernel_rfl) ?_
                  obtain ⟨x_43566, h_43567, h⟩ := bind_some' h
                  refine dd_oneG 28 (.call ⟨.value (.func 24), #[(.tmp 91), (.tmp 92)], #[34, 34]⟩) (some 93) 25 false (b := (!x_43536.2)) (by kernel_rfl) (by kernel_rfl) h_43565 (o_callP (g_ratio_Cmp_ok h_43567) (by kernel_rfl) rfl) ?_
                  refine dd_runG 29 30 25 false rfl (b := (!x_43536.2)) (by kernel_rfl) h_43565 (by kernel_rfl) ?_
                  refine dd_oneG 30 (.pick (.tmp 90) (.const (.bool true)) (.tmp 94)) (some 95) 18 true (b := true) (by kernel_rfl) (by kernel_rfl) rfl (o_pure (B (decide (x_43566 ≤ 0))) (ev_pickF h_43565 (by kernel_rfl) (by kernel_rfl)) rfl) ?_
                  refine ops_fin' hK_43557 ⟨[(4, B (decide (x_43566 ≤ 0)))], [(3, ⟨34, 0, (cs_Ratio x_43541.1)⟩), (2, ⟨34, 0, (cs_Ratio x_43536.1)⟩), (1, ⟨34, 0, (cs_Ratio x_43527.1)⟩), (0, ⟨34, 0, (cs_Ratio x_43522.1)⟩)], 4⟩ (by kernel_rfl) (leB rfl) ?_
                  refine w_ret ?_
                  obtain rfl := ((Option.some.inj h).symm).symm
                  exact ret_leaf (.inl rfl) ⟨[(4, B (decide (x_43566 ≤ 0)))], [], 0⟩ (to_ren [] (leB rfl) (by kernel_rfl) (by kernel_rfl) (renE_of (by kernel_rfl) (by kernel_rfl)) trivial) [B (decide (x_43566 ≤ 0))] (by kernel_rfl) (by kernel_rfl) (leB rfl) (by kernel_rfl) trivial
              · refine dd_runG 13 15 12 false rfl (b := (x_43541.2 != 0)) (by kernel_rfl) h_43564 (by kernel_rfl) ?_
                refine dd_oneG 15 (.binOp .eql 34 (.tmp 78) (.tmp 79) 34) (some 80) 12 false (b := (x_43541.2 != 0)) (by kernel_rfl) (by kernel_rfl) h_43564 (o_cmp (x := .agg (cs_Ratio x_43522.1)) (y := .agg (cs_Ratio x_43541.1)) (decide (x_43522.1 = x_43541.1)) (by kernel_rfl) (by kernel_rfl) (by kernel_rfl) (eql_Ratio x_43522.1 x_43541.1) rfl) ?_
                refine dd_oneG 16 (.pick (.tmp 77) (.const (.bool true)) (.tmp 80)) (some 81) 1 true (b := x_43491) (by kernel_rfl) (by kernel_rfl) h_43558 (o_pure (B (decide (x_43522.1 = x_43541.1))) (ev_pickF h_43564 (by kernel_rfl) (by kernel_rfl)) rfl) ?_
                refine dd_one 17 (.pick (.tmp 66) (.tmp 81) (.const (.bool false))) (some 82) (by kernel_rfl) (o_pure (B (decide (x_43522.1 = x_43541.1))) (ev_pickT h_43558 (by kernel_rfl) (by kernel_rfl)) rfl) ?_
                refine dd_run 18 19 rfl (by kernel_rfl) ?_
                refine ite_both h (fun h_43568 h => ?_) (fun h_43568 h => ?_)
                · refine dd_runG 19 22 18 true rfl (b := (decide (x_43522.1 = x_43541.1))) (by kernel_rfl) h_43568 (by kernel_rfl) ?_
                  refine dd_runG 22 24 21 false rfl (b := (!x_43522.2)) (by kernel_rfl) h_43559 (by kernel_rfl) ?_
                  refine dd_oneG 24 (.pick (.tmp 86) (.const (.bool true)) (.tmp 88)) (some 89) 18 true (b := (decide (x_43522.1 = x_43541.1))) (by kernel_rfl) (by kernel_rfl) h_43568 (o_pure (B (!x_43536.2)) (ev_pickF h_43559 (by kernel_rfl) (by kernel_rfl)) rfl) ?_
                  refine dd_runG 25 26 18 true rfl (b := (decide (x_43522.1 = x_43541.1))) (by kernel_rfl) h_43568 (by kernel_rfl) ?_
                  refine ite_both h (fun h_43569 h => ?_) (fun h_43569 h => ?_)
                  · refine dd_skip 26 30 25 false rfl (b := (!x_43536.2)) (by kernel_rfl) h_43569 (by kernel_rfl) ?_
                    refine dd_oneG 30 (.pick (.tmp 90) (.const (.bool true)) (.tmp 94)) (some 95) 18 true (b := (decide (x_43522.1 = x_43541.1))) (by kernel_rfl) (by kernel_rfl) h_43568 (o_pure (B true) (ev_pickT h_43569 (by kernel_rfl) (by kernel_rfl)) rfl) ?_
                    refine dd_one 31 (.pick (.tmp 83) (.tmp 95) (.const (.bool false))) (some 96) (by kernel_rfl) (o_pure (B true) (ev_pickT h_43568 (by kernel_rfl) (by kernel_rfl)) rfl) ?_
                    refine ops_fin' hK_43557 ⟨[(4, B true)], [(3, ⟨34, 0, (cs_Ratio x_43541.1)⟩), (2, ⟨34, 0, (cs_Ratio x_43536.1)⟩), (1, ⟨34, 0, (cs_Ratio x_43527.1)⟩), (0, ⟨34, 0, (cs_Ratio x_43522.1)⟩)], 4⟩ (by kernel_rfl) (leB rfl) ?_
                    refine w_ret ?_
                    obtain rfl := ((Option.some.inj h).symm).symm
                    exact ret_leaf (.inl rfl) ⟨[(4, B true)], [], 0⟩ (to_ren [] (leB rfl) (by kernel_rfl) (by kernel_rfl) (renE_of (by kernel_rfl) (by kernel_rfl)) trivial) [B true] (by kernel_rfl) (by kernel_rfl) (leB rfl) (by kernel_rfl) trivial
                  · refine dd_runG 26 28 25 false rfl (b := (!x_43536.2)) (by kernel_rfl) h_43569 (by kernel_rfl) ?_
                    obtain ⟨x_43570, h_43571, h⟩ := bind_some' h
                    refine dd_oneG 28 (.call ⟨.value (.func 24), #[(.tmp 91), (.tmp 92)], #[34, 34]⟩) (some 93) 25 false (b := (!x_43536.2)) (by kernel_rfl) (by kernel_rfl) h_43569 (o_callP (g_ratio_Cmp_ok h_43571) (by kernel_rfl) rfl) ?_
                    refine dd_runG 29 30 25 false rfl (b := (!x_43536.2)) (by kernel_rfl) h_43569 (by kernel_rfl) ?_
                    refine dd_oneG 30 (.pick (.tmp 90) (.const (.bool true)) (.tmp 94)) (some 95) 18 true (b := (decide (x_43522.1 = x_43541.1))) (by kernel_rfl) (by kernel_rfl) h_43568 (o_pure (B (decide (x_43570 ≤ 0))) (ev_pickF h_43569 (by kernel_rfl) (by kernel_rfl)) rfl) ?_
                    refine dd_one 31 (.pick (.tmp 83) (.tmp 95) (.const (.bool false))) (some 96) (by kernel_rfl) (o_pure (B (decide (x_43570 ≤ 0))) (ev_pickT h_43568 (by kernel_rfl) (by kernel_rfl)) rfl) ?_
                    refine ops_fin' hK_43557 ⟨[(4, B (decide (x_43570 ≤ 0)))], [(3, ⟨34, 0, (cs_Ratio x_43541.1)⟩), (2, ⟨34, 0, (cs_Ratio x_43536.1)⟩), (1, ⟨34, 0, (cs_Ratio x_43527.1)⟩), (0, ⟨34, 0, (cs_Ratio x_43522.1)⟩)], 4⟩ (by kernel_rfl) (leB rfl) ?_
                    refine w_ret ?_
                    obtain rfl := ((Option.some.inj h).symm).symm
                    exact ret_leaf (.inl rfl) ⟨[(4, B (decide (x_43570 ≤ 0)))], [], 0⟩ (to_ren [] (leB rfl) (by kernel_rfl) (by kernel_rfl) (renE_of (by kernel_rfl) (by kernel_rfl)) trivial) [B (decide (x_43570 ≤ 0))] (by kernel_rfl) (by kernel_rfl) (leB rfl) (by kernel_rfl) trivial
                · refine dd_skip 19 22 18 true rfl (b := (decide (x_43522.1 = x_43541.1))) (by kernel_rfl) h_43568 (by kernel_rfl) ?_
                  refine dd_skipU 22 24 21 false rfl (by kernel_rfl) (by kernel_rfl) ?_
                  refine dd_skip 24 26 18 true rfl (b := (decide (x_43522.1 = x_43541.1))) (by kernel_rfl) h_43568 (by kernel_rfl) ?_
                  refine dd_skipU 26 30 25 false rfl (by kernel_rfl) (by kernel_rfl) ?_
                  refine dd_skip 30 31 18 true rfl (b := (decide (x_43522.1 = x_43541.1))) (by kernel_rfl) h_43568 (by kernel_rfl) ?_
                  refine dd_one 31 (.pick (.tmp 83) (.tmp 95) (.const (.bool false))) (some 96) (by kernel_rfl) (o_pure (B false) (ev_pickF h_43568 (by kernel_rfl) (by kernel_rfl)) rfl) ?_
                  refine ops_fin' hK_43557 ⟨[(4, B false)], [(3, ⟨34, 0, (cs_Ratio x_43541.1)⟩), (2, ⟨34, 0, (cs_Ratio x_43536.1)⟩), (1, ⟨34, 0, (cs_Ratio x_43527.1)⟩), (0, ⟨34, 0, (cs_Ratio x_43522.1)⟩)], 4⟩ (by kernel_rfl) (leB rfl) ?_
                  refine w_ret ?_
                  obtain rfl := ((Option.some.inj h).symm).symm
                  exact ret_leaf (.inl rfl) ⟨[(4, B false)], [], 0⟩ (to_ren [] (leB rfl) (by kernel_rfl) (by kernel_rfl) (renE_of (by kernel_rfl) (by kernel_rfl)) trivial) [B false] (by kernel_rfl) (by kernel_rfl) (leB rfl) (by kernel_rfl) trivial
        · refine dd_skip 2 5 1 true rfl (b := x_43491) (by kernel_rfl) h_43558 (by kernel_rfl) ?_
          refine dd_skipU 5 7 4 false rfl (by kernel_rfl) (by kernel_rfl) ?_
          refine dd_skip 7 9 1 true rfl (b := x_43491) (by kernel_rfl) h_43558 (by kernel_rfl) ?_
          refine dd_skipU 9 11 8 false rfl (by kernel_rfl) (by kernel_rfl) ?_
          refine dd_skip 11 13 1 true rfl (b := x_43491) (by kernel_rfl) h_43558 (by kernel_rfl) ?_
          refine dd_skipU 13 16 12 false rfl (by kernel_rfl) (by kernel_rfl) ?_
          refine dd_skip 16 17 1 true rfl (b := x_43491) (by kernel_rfl) h_43558 (by kernel_rfl) ?_
          refine dd_one 17 (.pick (.tmp 66) (.tmp 81) (.const (.bool false))) (some 82) (by kernel_rfl) (o_pure (B false) (ev_pickF h_43558 (by kernel_rfl) (by kernel_rfl)) rfl) ?_
          refine dd_run 18 19 rfl (by kernel_rfl) ?_
          refine dd_skip 19 22 18 true rfl (b := false) (by kernel_rfl) rfl (by kernel_rfl) ?_
          refine dd_skipU 22 24 21 false rfl (by kernel_rfl) (by kernel_rfl) ?_
          refine dd_skip 24 26 18 true rfl (b := false) (by kernel_rfl) rfl (by kernel_rfl) ?_
          refine dd_skipU 26 30 25 false rfl (by kernel_rfl) (by kernel_rfl) ?_
          refine dd_skip 30 31 18 true rfl (b := false) (by kernel_rfl) rfl (by kernel_rfl) ?_
          refine ops_fin' hK_43557 ⟨[(4, B false)], [(3, ⟨34, 0, (cs_Ratio x_43541.1)⟩), (2, ⟨34, 0, (cs_Ratio x_43536.1)⟩), (1, ⟨34, 0, (cs_Ratio x_43527.1)⟩), (0, ⟨34, 0, (cs_Ratio x_43522.1)⟩)], 4⟩ (by kernel_rfl) (leB rfl) ?_
          refine w_ret ?_
          obtain rfl := ((Option.some.inj h).symm).symm
          exact ret_leaf (.inl rfl) ⟨[(4, B false)], [], 0⟩ (to_ren [] (leB rfl) (by kernel_rfl) (by kernel_rfl) (renE_of (by kernel_rfl) (by kernel_rfl)) trivial) [B false] (by kernel_rfl) (by kernel_rfl) (leB rfl) (by kernel_rfl) trivial
end Go.Proofs.Ytgggekjhfdkgkaa.Ab
