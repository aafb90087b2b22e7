/- Functions of the program as plain functions (printed by wip/dec.py). -/
import Derived.Test.YtgggekjhfdkgkaaDx3
import Derived.Test.YtgggekjhfdkgkaaDx5
import Derived.Test.YtgggekjhfdkgkaaDx7
import Derived.Test.YtgggekjhfdkgkaaDx14
namespace Go.Proofs.Ytgggekjhfdkgkaa.Ab
open Go Go.RowKit Go.Shelf
/-- estoppel/estoppellaw42.NettingFew -/
def g_estoppellaw42_NettingFew (a1 : Int) (a2 : List D.Debt) : Option (Bool) :=
  (g_estoppellaw42_head).bind fun x_39595 =>
  if (decide ((a2.length : Int) > 400)) = true then
  some x_39595
  else
  (g_netting_Positions a1 a2).bind fun x_39604 =>
  (g_netting_Net a1 a2).bind fun x_39609 =>
  (g_netting_Pairs a1 a2).bind fun x_39614 =>
  bindF (ρ := Bool) (
  if (x_39604.2 != 0) = true then
  some (.inl true)
  else
  some (.inl (x_39609.2 != 0))) (fun (e_39617 : Bool) =>
  if e_39617 = true then
  if x_39595 = true then
  some ((x_39609.1.length : Int) == 0)
  else
  some false
  else
  bindF (ρ := Int) (
  loopO (σ := Int × Int) (fun s_39783 =>
  if (decide (s_39783.2 < (x_39604.1.length : Int))) = true then
  (getI x_39604.1 s_39783.2).bind fun x_39812 =>
  if (x_39812.Num != 0) = true then
  some (.inl ((IntKind.i64.wrap (s_39783.1 + 1)), (IntKind.i64.wrap (s_39783.2 + 1))))
  else
  some (.inl (s_39783.1, (IntKind.i64.wrap (s_39783.2 + 1))))
  else
  some (.inr (.inl s_39783.1))) (0, 0)) (fun (e_39720 : Int) =>
  bindF (ρ := Unit) (
  loopO (σ := Int) (fun s_41240 =>
  if (decide (s_41240 < (x_39609.1.length : Int))) = true then
  loopO (σ := Int) (fun s_41480 =>
  if (decide (s_41480 < (x_39609.1.length : Int))) = true then
  (getI x_39609.1 s_41240).bind fun x_41521 =>
  (getI x_39609.1 s_41480).bind fun x_41525 =>
  if (x_41521.From == x_41525.To) = true then
  some (.inr (.inr (.inr false)))
  else
  some (.inl (IntKind.i64.wrap (s_41480 + 1)))
  else
  some (.inr (.inl (IntKind.i64.wrap (s_41240 + 1))))) 0
  else
  some (.inr (.inl ()))) 0) (fun (e_40669 : Unit) =>
  bindF (ρ := Unit) (
  loopO (σ := Int) (fun s_42991 =>
  if (decide (s_42991 < (x_39614.1.length : Int))) = true then
  (getI x_39614.1 (IntKind.i64.wrap (s_42991 - 1))).bind fun x_43163 =>
  (getI x_39614.1 (IntKind.i64.wrap (s_42991 - 1))).bind fun x_43167 =>
  (getI x_39614.1 s_42991).bind fun x_43171 =>
  (getI x_39614.1 s_42991).bind fun x_43175 =>
  bindF (ρ := Bool) (
  if (decide ((if x_43167.To < x_43163.From then x_43167.To else x_43163.From) > (if x_43175.To < x_43171.From then x_43175.To else x_43171.From))) = true then
  some (.inl true)
  else
  if ((if x_43167.To < x_43163.From then x_43167.To else x_43163.From) == (if x_43175.To < x_43171.From then x_43175.To else x_43171.From)) = true then
  (getI x_39614.1 (IntKind.i64.wrap (s_42991 - 1))).bind fun x_43242 =>
  (getI x_39614.1 (IntKind.i64.wrap (s_42991 - 1))).bind fun x_43256 =>
  (getI x_39614.1 s_42991).bind fun x_43270 =>
  (getI x_39614.1 s_42991).bind fun x_43282 =>
  some (.inl (decide ((if x_43256.To > x_43242.From then x_43256.To else x_43242.From) ≥ (if x_43282.To > x_43270.From then x_43282.To else x_43270.From))))
  else
  some (.inl false)) (fun (e_43229 : Bool) =>
  if e_43229 = true then
  some (.inr (.inr false))
  else
  some (.inl (IntKind.i64.wrap (s_42991 + 1))))
  else
  some (.inr (.inl ()))) 1) (fun (e_42404 : Unit) =>
  if x_39595 = true then
  if (decide ((x_39609.1.length : Int) < e_39720)) = true then
  some true
  else
  if ((x_39609.1.length : Int) == 0) = true then
  some (e_39720 == 0)
  else
  some false
  else
  some false))))
set_option maxHeartbeats 4000000 in
theorem g_estoppellaw42_NettingFew_ok {a1 : Int} {a2 : List D.Debt} {res : Bool} (h : g_estoppellaw42_NettingFew a1 a2 = some res) : SpecK Try.prog [] 5 [I a1, sl 4 cs_Debt a2] [] 0 (B res) [] 0 := by
  refine ⟨spec_of_wp Try.func5 (by kernel_rfl) rfl Try.ntmps5 (by rw [Try.results5]) (leB rfl) ?_, by kernel_rfl, trivial, by kernel_rfl, trivial, by kernel_rfl⟩
  unfold g_estoppellaw42_NettingFew at h
  refine w_reg ⟨[(0, I a1), (1, sl 4 cs_Debt a2)], [], 0⟩ (by kernel_rfl) (leB rfl) ?_
  refine w_seq (fun K hK_39594 => w_reg0 ?_)
  obtain ⟨x_39595, h_39596, h⟩ := bind_some' h
  refine dd_one 0 (.call ⟨.value (.func 9), #[], #[]⟩) (some 19) (by kernel_rfl) (o_callP (g_estoppellaw42_head_ok h_39596) (by kernel_rfl) rfl) ?_
  refine ops_fin' hK_39594 ⟨[(0, I a1), (1, sl 4 cs_Debt a2), (5, B x_39595)], [], 0⟩ (by kernel_rfl) (leB rfl) ?_
  refine w_assoc ?_
  refine w_seq (fun K hK_39597 => w_reg0 ?_)
  refine dd_run 0 1 rfl (by kernel_rfl) ?_
  refine dd_one 1 (.call ⟨.builtin .len, #[(.tmp 20)], #[22]⟩) (some 21) (by kernel_rfl) (o_pure (I (a2.length : Int)) (ev_len_sl (e := 38) (ty := 0) (k := 4) (c := cs_Debt) (by kernel_rfl) (by kernel_rfl)) rfl) ?_
  refine ops_fin' hK_39597 ⟨[(0, I a1), (1, sl 4 cs_Debt a2), (5, B x_39595), (22, B (decide ((a2.length : Int) > 400)))], [], 0⟩ (by kernel_rfl) (leB rfl) ?_
  refine w_seq (fun K hK_39599 => ?_)
  refine w_ite h (by kernel_rfl) (fun h_39600 h => ?_) (fun h_39600 h => ?_)
  · refine w_reg ⟨[(4, B x_39595)], [], 0⟩ (by kernel_rfl) (leB rfl) ?_
    refine w_ret ?_
    obtain rfl := ((Option.some.inj h).symm).symm
    exact ret_leaf (.inl rfl) ⟨[(4, B x_39595)], [], 0⟩ (to_ren [] (leB rfl) (by kernel_rfl) (by kernel_rfl) (renE_of (by kernel_rfl) (by kernel_rfl)) trivial) [B x_39595] (by kernel_rfl) (by kernel_rfl) (leB rfl) (by kernel_rfl) trivial
  · refine w_skip ?_
    refine hK_39599 _ ⟨[(0, I a1), (1, sl 4 cs_Debt a2), (5, B x_39595)], [], 0⟩ (to_trim (by kernel_rfl) (leB rfl)) ?_
    refine w_seq (fun K hK_39603 => w_reg0 ?_)
    refine dd_run 0 2 rfl (by kernel_rfl) ?_
    obtain ⟨x_39604, h_39605, h⟩ := bind_some' h
    refine dd_one 2 (.call ⟨.value (.func 10), #[(.tmp 25), (.tmp 26)], #[3, 22]⟩) (some 27) (by kernel_rfl) (o_callP (g_netting_Positions_ok h_39605) (by kernel_rfl) rfl) ?_
    refine ops_fin' hK_39603 ⟨[(0, I a1), (1, sl 4 cs_Debt a2), (5, B x_39595), (6, sl 2 cs_Ratio x_39604.1), (7, I x_39604.2)], [], 0⟩ (by kernel_rfl) (leB rfl) ?_
    refine w_seq (fun K hK_39608 => w_reg0 ?_)
    refine dd_run 0 2 rfl (by kernel_rfl) ?_
    obtain ⟨x_39609, h_39610, h⟩ := bind_some' h
    refine dd_one 2 (.call ⟨.value (.func 14), #[(.tmp 31), (.tmp 32)], #[3, 22]⟩) (some 33) (by kernel_rfl) (o_callP (g_netting_Net_ok h_39610) (by kernel_rfl) rfl) ?_
    refine ops_fin' hK_39608 ⟨[(0, I a1), (1, sl 4 cs_Debt a2), (5, B x_39595), (6, sl 2 cs_Ratio x_39604.1), (7, I x_39604.2), (8, sl 4 cs_Debt x_39609.1), (9, I x_39609.2)], [], 0⟩ (by kernel_rfl) (leB rfl) ?_
    refine w_seq (fun K hK_39613 => w_reg0 ?_)
    refine dd_run 0 2 rfl (by kernel_rfl) ?_
    obtain ⟨x_39614, h_39615, h⟩ := bind_some' h
    refine dd_one 2 (.call ⟨.value (.func 12), #[(.tmp 37), (.tmp 38)], #[3, 22]⟩) (some 39) (by kernel_rfl) (o_callP (g_netting_Pairs_ok h_39615) (by kernel_rfl) rfl) ?_
    refine ops_fin' hK_39613 ⟨[(5, B x_39595), (6, sl 2 cs_Ratio x_39604.1), (7, I x_39604.2), (8, sl 4 cs_Debt x_39609.1), (9, I x_39609.2), (10, sl 4 cs_Debt x_39614.1)], [], 0⟩ (by kernel_rfl) (leB rfl) ?_
    refine w_assoc ?_
    refine w_cut h (fun (e_39617 : Bool) => ⟨[(5, B x_39595), (6, sl 2 cs_Ratio x_39604.1), (8, sl 4 cs_Debt x_39609.1), (10, sl 4 cs_Debt x_39614.1), (47, B e_39617)], [], 0⟩) (fun o h h_39618 K hK_39619 => ?_) (fun e_39617 h => ?_)
    · refine w_reg0 ?_
      refine dd_run 0 3 rfl (by kernel_rfl) ?_
      refine ite_both h (fun h_39620 h => ?_) (fun h_39620 h => ?_)
      · refine dd_skip 3 5 2 false rfl (b := (x_39604.2 != 0)) (by kernel_rfl) h_39620 (by kernel_rfl) ?_
        refine dd_one 5 (.pick (.tmp 44) (.const (.bool true)) (.tmp 46)) (some 47) (by kernel_rfl) (o_pure (B true) (ev_pickT h_39620 (by kernel_rfl) (by kernel_rfl)) rfl) ?_
        refine dd_nil 6 rfl ?_
        exact hK_39619 _ _ (Option.some.inj h).symm (to_ren [] (leB rfl) (by kernel_rfl) (by kernel_rfl) (renE_of (by kernel_rfl) (by kernel_rfl)) trivial)
      · refine dd_runG 3 5 2 false rfl (b := (x_39604.2 != 0)) (by kernel_rfl) h_39620 (by kernel_rfl) ?_
        refine dd_one 5 (.pick (.tmp 44) (.const (.bool true)) (.tmp 46)) (some 47) (by kernel_rfl) (o_pure (B (x_39609.2 != 0)) (ev_pickF h_39620 (by kernel_rfl) (by kernel_rfl)) rfl) ?_
        refine dd_nil 6 rfl ?_
        exact hK_39619 _ _ (Option.some.inj h).symm (to_ren [] (leB rfl) (by kernel_rfl) (by kernel_rfl) (renE_of (by kernel_rfl) (by kernel_rfl)) trivial)
    · refine w_seq (fun K hK_39625 => ?_)
      refine w_ite h (by kernel_rfl) (fun h_39626 h => ?_) (fun h_39626 h => ?_)
      · refine w_seq (fun K hK_39628 => w_reg0 ?_)
        refine dd_run 0 2 rfl (by kernel_rfl) ?_
        refine ite_both h (fun h_39629 h => ?_) (fun h_39629 h => ?_)
        · refine dd_runG 2 3 1 true rfl (b := x_39595) (by kernel_rfl) h_39629 (by kernel_rfl) ?_
          refine dd_oneG 3 (.call ⟨.builtin .len, #[(.tmp 50)], #[22]⟩) (some 51) 1 true (b := x_39595) (by kernel_rfl) (by kernel_rfl) h_39629 (o_pure (I (x_39609.1.length : Int)) (ev_len_sl (e := 38) (ty := 0) (k := 4) (c := cs_Debt) (by kernel_rfl) (by kernel_rfl)) rfl) ?_
          refine dd_runG 4 5 1 true rfl (b := x_39595) (by kernel_rfl) h_39629 (by kernel_rfl) ?_
          refine dd_one 5 (.pick (.tmp 49) (.tmp 52) (.const (.bool false))) (some 53) (by kernel_rfl) (o_pure (B ((x_39609.1.length : Int) == 0)) (ev_pickT h_39629 (by kernel_rfl) (by kernel_rfl)) rfl) ?_
          refine ops_fin' hK_39628 ⟨[(4, B ((x_39609.1.length : Int) == 0))], [], 0⟩ (by kernel_rfl) (leB rfl) ?_
          refine w_ret ?_
          obtain rfl := ((Option.some.inj h).symm).symm
          exact ret_leaf (.inl rfl) ⟨[(4, B ((x_39609.1.length : Int) == 0))], [], 0⟩ (to_ren [] (leB rfl) (by kernel_rfl) (by kernel_rfl) (renE_of (by kernel_rfl) (by kernel_rfl)) trivial) [B ((x_39609.1.length : Int) == 0)] (by kernel_rfl) (by kernel_rfl) (leB rfl) (by kernel_rfl) trivial
        · refine dd_skip 2 5 1 true rfl (b := x_39595) (by kernel_rfl) h_39629 (by kernel_rfl) ?_
          refine dd_one 5 (.pick (.tmp 49) (.tmp 52) (.const (.bool false))) (some 53) (by kernel_rfl) (o_pure (B false) (ev_pickF h_39629 (by kernel_rfl) (by kernel_rfl)) rfl) ?_
          refine ops_fin' hK_39628 ⟨[(4, B false)], [], 0⟩ (by kernel_rfl) (leB rfl) ?_
          refine w_ret ?_
          obtain rfl := ((Option.some.inj h).symm).symm
          exact ret_leaf (.inl rfl) ⟨[(4, B false)], [], 0⟩ (to_ren [] (leB rfl) (by kernel_rfl) (by kernel_rfl) (renE_of (by kernel_rfl) (by kernel_rfl)) trivial) [B false] (by kernel_rfl) (by kernel_rfl) (leB rfl) (by kernel_rfl) trivial
      · refine w_skip ?_
        refine hK_39625 _ ⟨[(5, B x_39595), (6, sl 2 cs_Ratio x_39604.1), (8, sl 4 cs_Debt x_39609.1), (10, sl 4 cs_Debt x_39614.1)], [], 0⟩ (to_trim (by kernel_rfl) (leB rfl)) ?_
        refine w_reg ⟨[(5, B x_39595), (6, sl 2 cs_Ratio x_39604.1), (8, sl 4 cs_Debt x_39609.1), (10, sl 4 cs_Debt x_39614.1), (12, I 0)], [], 0⟩ (by kernel_rfl) (leB rfl) ?_
        refine w_assoc ?_
        refine w_reg ⟨[(5, B x_39595), (6, sl 2 cs_Ratio x_39604.1), (8, sl 4 cs_Debt x_39609.1), (10, sl 4 cs_Debt x_39614.1), (12, I 0), (13, I 0)], [], 0⟩ (by kernel_rfl) (leB rfl) ?_
        refine w_cut h (fun (e_39720 : Int) => ⟨[(5, B x_39595), (8, sl 4 cs_Debt x_39609.1), (10, sl 4 cs_Debt x_39614.1), (12, I e_39720)], [], 0⟩) (fun o h h_39721 K hK_39722 => ?_) (fun e_39720 h => ?_)
        · refine w_block ?_
          refine w_loopO h (fun (s_39783 : Int × Int) => ⟨[(5, B x_39595), (6, sl 2 cs_Ratio x_39604.1), (8, sl 4 cs_Debt x_39609.1), (10, sl 4 cs_Debt x_39614.1), (12, I s_39783.1), (13, I s_39783.2)], [], 0⟩) (to_ren [] (leB rfl) (by kernel_rfl) (by kernel_rfl) (renE_of (by kernel_rfl) (by kernel_rfl)) trivial) (fun s_39783 o h h_39784 K hK_39785 => ?_)
          · refine w_assoc ?_
            refine w_seq (fun K hK_39786 => w_reg0 ?_)
            refine dd_run 0 2 rfl (by kernel_rfl) ?_
            refine dd_one 2 (.call ⟨.builtin .len, #[(.tmp 55)], #[24]⟩) (some 56) (by kernel_rfl) (o_pure (I (x_39604.1.length : Int)) (ev_len_sl (e := 34) (ty := 0) (k := 2) (c := cs_Ratio) (by kernel_rfl) (by kernel_rfl)) rfl) ?_
            refine ops_fin' hK_39786 ⟨[(5, B x_39595), (6, sl 2 cs_Ratio x_39604.1), (8, sl 4 cs_Debt x_39609.1), (10, sl 4 cs_Debt x_39614.1), (12, I s_39783.1), (13, I s_39783.2), (57, B (decide (s_39783.2 < (x_39604.1.length : Int))))], [], 0⟩ (by kernel_rfl) (leB rfl) ?_
            refine w_seq (fun K hK_39788 => ?_)
            refine w_ite h (by kernel_rfl) (fun h_39789 h => ?_) (fun h_39789 h => ?_)
            · refine w_skip ?_
              refine hK_39788 _ ⟨[(5, B x_39595), (6, sl 2 cs_Ratio x_39604.1), (8, sl 4 cs_Debt x_39609.1), (10, sl 4 cs_Debt x_39614.1), (12, I s_39783.1), (13, I s_39783.2)], [], 0⟩ (to_trim (by kernel_rfl) (leB rfl)) ?_
              refine w_seq (fun K hK_39802 => ?_)
              refine w_block ?_
              refine w_seq (fun K hK_39809 => w_reg0 ?_)
              refine dd_run 0 2 rfl (by kernel_rfl) ?_
              obtain ⟨x_39812, h_39813, h⟩ := bind_some' h
              refine dd_one 2 (.indexAddr 24 (.tmp 60) (.tmp 61)) (some 62) (by kernel_rfl) (o_pure (.ip (cs_Ratio x_39812)) (ev_idx_sl (e := 34) (k := 2) (c := cs_Ratio) (ik := .i64) h_39813 (by kernel_rfl) (by kernel_rfl) (by kernel_rfl) (by kernel_rfl)) rfl) ?_
              refine ops_fin' hK_39809 ⟨[(5, B x_39595), (6, sl 2 cs_Ratio x_39604.1), (8, sl 4 cs_Debt x_39609.1), (10, sl 4 cs_Debt x_39614.1), (12, I s_39783.1), (13, I s_39783.2), (65, B (x_39812.Num != 0))], [], 0⟩ (by kernel_rfl) (leB rfl) ?_
              refine w_ite h (by kernel_rfl) (fun h_39814 h => ?_) (fun h_39814 h => ?_)
              · refine w_reg0 ?_
                refine dd_run 0 3 rfl (by kernel_rfl) ?_
                refine dd_nil 3 rfl ?_
                refine hK_39802 _ ⟨[(5, B x_39595), (6, sl 2 cs_Ratio x_39604.1), (8, sl 4 cs_Debt x_39609.1), (10, sl 4 cs_Debt x_39614.1), (12, I (IntKind.i64.wrap (s_39783.1 + 1))), (13, I s_39783.2)], [], 0⟩ (to_trim (by kernel_rfl) (leB rfl)) ?_
                refine w_reg0 ?_
                refine dd_run 0 3 rfl (by kernel_rfl) ?_
                refine dd_nil 3 rfl ?_
                exact hK_39785 _ _ (Option.some.inj h).symm (to_ren [] (leB rfl) (by kernel_rfl) (by kernel_rfl) (renE_of (by kernel_rfl) (by kernel_rfl)) trivial)
              · refine w_skip ?_
                refine hK_39802 _ ⟨[(5, B x_39595), (6, sl 2 cs_Ratio x_39604.1), (8, sl 4 cs_Debt x_39609.1), (10, sl 4 cs_Debt x_39614.1), (12, I s_39783.1), (13, I s_39783.2)], [], 0⟩ (to_trim (by kernel_rfl) (leB rfl)) ?_
                refine w_reg0 ?_
                refine dd_run 0 3 rfl (by kernel_rfl) ?_
                refine dd_nil 3 rfl ?_
                exact hK_39785 _ _ (Option.some.inj h).symm (to_ren [] (leB rfl) (by kernel_rfl) (by kernel_rfl) (renE_of (by kernel_rfl) (by kernel_rfl)) trivial)
            · refine w_exit ?_
              exact hK_39722 _ _ (h_39784 _ (Option.some.inj h).symm).symm (to_ren [] (leB rfl) (by kernel_rfl) (by kernel_rfl) (renE_of (by kernel_rfl) (by kernel_rfl)) trivial)
        · refine w_assoc ?_
          refine w_reg ⟨[(5, B x_39595), (8, sl 4 cs_Debt x_39609.1), (10, sl 4 cs_Debt x_39614.1), (12, I e_39720), (14, I 0)], [], 0⟩ (by kernel_rfl) (leB rfl) ?_
          refine w_cut h (fun (e_40669 : Unit) => ⟨[(5, B x_39595), (8, sl 4 cs_Debt x_39609.1), (10, sl 4 cs_Debt x_39614.1), (12, I e_39720)], [], 0⟩) (fun o h h_40670 K hK_40671 => ?_) (fun e_40669 h => ?_)
          · refine w_block ?_
            refine w_loopO h (fun (s_41240 : Int) => ⟨[(5, B x_39595), (8, sl 4 cs_Debt x_39609.1), (10, sl 4 cs_Debt x_39614.1), (12, I e_39720), (14, I s_41240)], [], 0⟩) (to_ren [] (leB rfl) (by kernel_rfl) (by kernel_rfl) (renE_of (by kernel_rfl) (by kernel_rfl)) trivial) (fun s_41240 o h h_41241 K hK_41242 => ?_)
            · refine w_assoc ?_
              refine w_seq (fun K hK_41243 => w_reg0 ?_)
              refine dd_run 0 2 rfl (by kernel_rfl) ?_
              refine dd_one 2 (.call ⟨.builtin .len, #[(.tmp 69)], #[22]⟩) (some 70) (by kernel_rfl) (o_pure (I (x_39609.1.length : Int)) (ev_len_sl (e := 38) (ty := 0) (k := 4) (c := cs_Debt) (by kernel_rfl) (by kernel_rfl)) rfl) ?_
              refine ops_fin' hK_41243 ⟨[(5, B x_39595), (8, sl 4 cs_Debt x_39609.1), (10, sl 4 cs_Debt x_39614.1), (12, I e_39720), (14, I s_41240), (71, B (decide (s_41240 < (x_39609.1.length : Int))))], [], 0⟩ (by kernel_rfl) (leB rfl) ?_
              refine w_seq (fun K hK_41245 => ?_)
              refine w_ite h (by kernel_rfl) (fun h_41246 h => ?_) (fun h_41246 h => ?_)
              · refine w_skip ?_
                refine hK_41245 _ ⟨[(5, B x_39595), (8, sl 4 cs_Debt x_39609.1), (10, sl 4 cs_Debt x_39614.1), (12, I e_39720), (14, I s_41240)], [], 0⟩ (to_trim (by kernel_rfl) (leB rfl)) ?_
                refine w_seq (fun K hK_41387 => ?_)
                refine w_block ?_
                refine w_reg ⟨[(5, B x_39595), (8, sl 4 cs_Debt x_39609.1), (10, sl 4 cs_Debt x_39614.1), (12, I e_39720), (14, I s_41240), (15, I 0)], [], 0⟩ (by kernel_rfl) (leB rfl) ?_
                refine w_block ?_
                refine w_loopO h (fun (s_41480 : Int) => ⟨[(5, B x_39595), (8, sl 4 cs_Debt x_39609.1), (10, sl 4 cs_Debt x_39614.1), (12, I e_39720), (14, I s_41240), (15, I s_41480)], [], 0⟩) (to_ren [] (leB rfl) (by kernel_rfl) (by kernel_rfl) (renE_of (by kernel_rfl) (by kernel_rfl)) trivial) (fun s_41480 o h h_41481 K hK_41482 => ?_)
                · refine w_assoc ?_
                  refine w_seq (fun K hK_41483 => w_reg0 ?_)
                  refine dd_run 0 2 rfl (by kernel_rfl) ?_
                  refine dd_one 2 (.call ⟨.builtin .len, #[(.tmp 75)], #[22]⟩) (some 76) (by kernel_rfl) (o_pure (I (x_39609.1.length : Int)) (ev_len_sl (e := 38) (ty := 0) (k := 4) (c := cs_Debt) (by kernel_rfl) (by kernel_rfl)) rfl) ?_
                  refine ops_fin' hK_41483 ⟨[(5, B x_39595), (8, sl 4 cs_Debt x_39609.1), (10, sl 4 cs_Debt x_39614.1), (12, I e_39720), (14, I s_41240), (15, I s_41480), (77, B (decide (s_41480 < (x_39609.1.length : Int))))], [], 0⟩ (by kernel_rfl) (leB rfl) ?_
                  refine w_seq (fun K hK_41485 => ?_)
                  refine w_ite h (by kernel_rfl) (fun h_41486 h => ?_) (fun h_41486 h => ?_)
                  · refine w_skip ?_
                    refine hK_41485 _ ⟨[(5, B x_39595), (8, sl 4 cs_Debt x_39609.1), (10, sl 4 cs_Debt x_39614.1), (12, I e_39720), (14, I s_41240), (15, I s_41480)], [], 0⟩ (to_trim (by kernel_rfl) (leB rfl)) ?_
                    refine w_seq (fun K hK_41507 => ?_)
                    refine w_block ?_
                    refine w_seq (fun K hK_41518 => w_mix0 (by kernel_rfl) (by kernel_rfl) ?_)
                    refine mm_run 0 2 rfl (by kernel_rfl) ?_
                    obtain ⟨x_41521, h_41522, h⟩ := bind_some' h
                    refine mm_one 2 (.indexAddr 22 (.tmp 80) (.tmp 81)) (some 82) (by kernel_rfl) (by kernel_rfl) (oH_pure (.ip (cs_Debt x_41521)) (ev_idx_sl (e := 38) (k := 4) (c := cs_Debt) (ik := .i64) h_41522 (by kernel_rfl) (by kernel_rfl) (by kernel_rfl) (by kernel_rfl)) rfl) ?_
                    refine mm_run 3 7 rfl (by kernel_rfl) ?_
                    obtain ⟨x_41525, h_41526, h⟩ := bind_some' h
                    refine mm_one 7 (.indexAddr 22 (.tmp 85) (.tmp 86)) (some 87) (by kernel_rfl) (by kernel_rfl) (oH_pure (.ip (cs_Debt x_41525)) (ev_idx_sl (e := 38) (k := 4) (c := cs_Debt) (ik := .i64) h_41526 (by kernel_rfl) (by kernel_rfl) (by kernel_rfl) (by kernel_rfl)) rfl) ?_
                    refine mix_fin' hK_41518 ⟨[(5, B x_39595), (8, sl 4 cs_Debt x_39609.1), (10, sl 4 cs_Debt x_39614.1), (12, I e_39720), (14, I s_41240), (15, I s_41480), (90, B (x_41521.From == x_41525.To))], [], 0⟩ (by kernel_rfl) (leB rfl) ?_
                    refine w_ite h (by kernel_rfl) (fun h_41527 h => ?_) (fun h_41527 h => ?_)
                    · refine w_reg ⟨[(4, B false)], [], 0⟩ (by kernel_rfl) (leB rfl) ?_
                      refine w_ret ?_
                      obtain rfl := ((h_40670 _ (h_41241 _ (h_41481 _ (Option.some.inj h).symm).symm).symm).symm).symm
                      exact ret_leaf (.inl rfl) ⟨[(4, B false)], [], 0⟩ (to_ren [] (leB rfl) (by kernel_rfl) (by kernel_rfl) (renE_of (by kernel_rfl) (by kernel_rfl)) trivial) [B false] (by kernel_rfl) (by kernel_rfl) (leB rfl) (by kernel_rfl) trivial
                    · refine w_skip ?_
                      refine hK_41507 _ ⟨[(5, B x_39595), (8, sl 4 cs_Debt x_39609.1), (10, sl 4 cs_Debt x_39614.1), (12, I e_39720), (14, I s_41240), (15, I s_41480)], [], 0⟩ (to_trim (by kernel_rfl) (leB rfl)) ?_
                      refine w_reg0 ?_
                      refine dd_run 0 3 rfl (by kernel_rfl) ?_
                      refine dd_nil 3 rfl ?_
                      exact hK_41482 _ _ (Option.some.inj h).symm (to_ren [] (leB rfl) (by kernel_rfl) (by kernel_rfl) (renE_of (by kernel_rfl) (by kernel_rfl)) trivial)
                  · refine w_exit ?_
                    refine hK_41387 _ ⟨[(5, B x_39595), (8, sl 4 cs_Debt x_39609.1), (10, sl 4 cs_Debt x_39614.1), (12, I e_39720), (14, I s_41240)], [], 0⟩ (to_trim (by kernel_rfl) (leB rfl)) ?_
                    refine w_reg0 ?_
                    refine dd_run 0 3 rfl (by kernel_rfl) ?_
                    refine dd_nil 3 rfl ?_
                    exact hK_41242 _ _ (h_41481 _ (Option.some.inj h).symm).symm (to_ren [] (leB rfl) (by kernel_rfl) (by kernel_rfl) (renE_of (by kernel_rfl) (by kernel_rfl)) trivial)
              · refine w_exit ?_
                exact hK_40671 _ _ (h_41241 _ (Option.some.inj h).symm).symm (to_ren [] (leB rfl) (by kernel_rfl) (by kernel_rfl) (renE_of (by kernel_rfl) (by kernel_rfl)) trivial)
          · refine w_assoc ?_
            refine w_reg ⟨[(5, B x_39595), (8, sl 4 cs_Debt x_39609.1), (10, sl 4 cs_Debt x_39614.1), (12, I e_39720), (16, I 1)], [], 0⟩ (by kernel_rfl) (leB rfl) ?_
            refine w_cut h (fun (e_42404 : Unit) => ⟨[(5, B x_39595), (8, sl 4 cs_Debt x_39609.1), (12, I e_39720)], [], 0⟩) (fun o h h_42405 K hK_42406 => ?_) (fun e_42404 h => ?_)
            · refine w_block ?_
              refine w_loopO h (fun (s_42991 : Int) => ⟨[(5, B x_39595), (8, sl 4 cs_Debt x_39609.1), (10, sl 4 cs_Debt x_39614.1), (12, I e_39720), (16, I s_42991)], [], 0⟩) (to_ren [] (leB rfl) (by kernel_rfl) (by kernel_rfl) (renE_of (by kernel_rfl) (by kernel_rfl)) trivial) (fun s_42991 o h h_42992 K hK_42993 => ?_)
              · refine w_assoc ?_
                refine w_seq (fun K hK_42994 => w_reg0 ?_)
                refine dd_run 0 2 rfl (by kernel_rfl) ?_
                refine dd_one 2 (.call ⟨.builtin .len, #[(.tmp 92)], #[22]⟩) (some 93) (by kernel_rfl) (o_pure (I (x_39614.1.length : Int)) (ev_len_sl (e := 38) (ty := 0) (k := 4) (c := cs_Debt) (by kernel_rfl) (by kernel_rfl)) rfl) ?_
                refine ops_fin' hK_42994 ⟨[(5, B x_39595), (8, sl 4 cs_Debt x_39609.1), (10, sl 4 cs_Debt x_39614.1), (12, I e_39720), (16, I s_42991), (94, B (decide (s_42991 < (x_39614.1.length : Int))))], [], 0⟩ (by kernel_rfl) (leB rfl) ?_
                refine w_seq (fun K hK_42996 => ?_)
                refine w_ite h (by kernel_rfl) (fun h_42997 h => ?_) (fun h_42997 h => ?_)
                · refine w_skip ?_
                  refine hK_42996 _ ⟨[(5, B x_39595), (8, sl 4 cs_Debt x_39609.1), (10, sl 4 cs_Debt x_39614.1), (12, I e_39720), (16, I s_42991)], [], 0⟩ (to_trim (by kernel_rfl) (leB rfl)) ?_
                  refine w_seq (fun K hK_43141 => ?_)
                  refine w_block ?_
                  refine w_seq (fun K hK_43160 => w_mix0 (by kernel_rfl) (by kernel_rfl) ?_)
                  refine mm_run 0 3 rfl (by kernel_rfl) ?_
                  obtain ⟨x_43163, h_43164, h⟩ := bind_some' h
                  refine mm_one 3 (.indexAddr 22 (.tmp 97) (.tmp 99)) (some 100) (by kernel_rfl) (by kernel_rfl) (oH_pure (.ip (cs_Debt x_43163)) (ev_idx_sl (e := 38) (k := 4) (c := cs_Debt) (ik := .i64) h_43164 (by kernel_rfl) (by kernel_rfl) (by kernel_rfl) (by kernel_rfl)) rfl) ?_
                  refine mm_run 4 9 rfl (by kernel_rfl) ?_
                  obtain ⟨x_43167, h_43168, h⟩ := bind_some' h
                  refine mm_one 9 (.indexAddr 22 (.tmp 103) (.tmp 105)) (some 106) (by kernel_rfl) (by kernel_rfl) (oH_pure (.ip (cs_Debt x_43167)) (ev_idx_sl (e := 38) (k := 4) (c := cs_Debt) (ik := .i64) h_43168 (by kernel_rfl) (by kernel_rfl) (by kernel_rfl) (by kernel_rfl)) rfl) ?_
                  refine mm_run 10 15 rfl (by kernel_rfl) ?_
                  obtain ⟨x_43171, h_43172, h⟩ := bind_some' h
                  refine mm_one 15 (.indexAddr 22 (.tmp 110) (.tmp 111)) (some 112) (by kernel_rfl) (by kernel_rfl) (oH_pure (.ip (cs_Debt x_43171)) (ev_idx_sl (e := 38) (k := 4) (c := cs_Debt) (ik := .i64) h_43172 (by kernel_rfl) (by kernel_rfl) (by kernel_rfl) (by kernel_rfl)) rfl) ?_
                  refine mm_run 16 20 rfl (by kernel_rfl) ?_
                  obtain ⟨x_43175, h_43176, h⟩ := bind_some' h
                  refine mm_one 20 (.indexAddr 22 (.tmp 115) (.tmp 116)) (some 117) (by kernel_rfl) (by kernel_rfl) (oH_pure (.ip (cs_Debt x_43175)) (ev_idx_sl (e := 38) (k := 4) (c := cs_Debt) (ik := .i64) h_43176 (by kernel_rfl) (by kernel_rfl) (by kernel_rfl) (by kernel_rfl)) rfl) ?_
                  refine mix_fin' hK_43160 ⟨[(5, B x_39595), (8, sl 4 cs_Debt x_39609.1), (10, sl 4 cs_Debt x_39614.1), (12, I e_39720), (16, I s_42991), (17, I (if x_43167.To < x_43163.From then x_43167.To else x_43163.From)), (18, I (if x_43175.To < x_43171.From then x_43175.To else x_43171.From))], [], 0⟩ (by kernel_rfl) (leB rfl) ?_
                  refine w_cut h (fun (e_43229 : Bool) => ⟨[(5, B x_39595), (8, sl 4 cs_Debt x_39609.1), (10, sl 4 cs_Debt x_39614.1), (12, I e_39720), (16, I s_42991), (155, B e_43229)], [], 0⟩) (fun o h h_43230 K hK_43231 => ?_) (fun e_43229 h => ?_)
                  · refine w_mix0 (by kernel_rfl) (by kernel_rfl) ?_
                    refine mm_run 0 4 rfl (by kernel_rfl) ?_
                    refine ite_both h (fun h_43232 h => ?_) (fun h_43232 h => ?_)
                    · refine mm_skip 4 (.move (.tmp 17)) (some 125) 3 false (b := (decide ((if x_43167.To < x_43163.From then x_43167.To else x_43163.From) > (if x_43175.To < x_43171.From then x_43175.To else x_43171.From)))) (by kernel_rfl) (by kernel_rfl) (by kernel_rfl) h_43232 rfl ?_
                      refine mm_skip 5 (.move (.tmp 18)) (some 126) 3 false (b := (decide ((if x_43167.To < x_43163.From then x_43167.To else x_43163.From) > (if x_43175.To < x_43171.From then x_43175.To else x_43171.From)))) (by kernel_rfl) (by kernel_rfl) (by kernel_rfl) h_43232 rfl ?_
                      refine mm_skip 6 (.binOp .eql 3 (.tmp 125) (.tmp 126) 3) (some 127) 3 false (b := (decide ((if x_43167.To < x_43163.From then x_43167.To else x_43163.From) > (if x_43175.To < x_43171.From then x_43175.To else x_43171.From)))) (by kernel_rfl) (by kernel_rfl) (by kernel_rfl) h_43232 rfl ?_
                      refine mm_skip 7 (.move (.tmp 127)) (some 128) 3 false (b := (decide ((if x_43167.To < x_43163.From then x_43167.To else x_43163.From) > (if x_43175.To < x_43171.From then x_43175.To else x_43171.From)))) (by kernel_rfl) (by kernel_rfl) (by kernel_rfl) h_43232 rfl ?_
                      refine mm_skipU 8 (.move (.tmp 10)) (some 129) 7 true (by kernel_rfl) (by kernel_rfl) (by kernel_rfl) rfl ?_
                      refine mm_skipU 9 (.move (.tmp 16)) (some 130) 7 true (by kernel_rfl) (by kernel_rfl) (by kernel_rfl) rfl ?_
                      refine mm_skipU 10 (.binOp .sub 3 (.tmp 130) (.const (.int .i64 (1))) 3) (some 131) 7 true (by kernel_rfl) (by kernel_rfl) (by kernel_rfl) rfl ?_
                      refine mm_skipU 11 (.indexAddr 22 (.tmp 129) (.tmp 131)) (some 132) 7 true (by kernel_rfl) (by kernel_rfl) (by kernel_rfl) rfl ?_
                      refine mm_skipU 12 (.fieldAddr 38 (.tmp 132) 0) (some 133) 7 true (by kernel_rfl) (by kernel_rfl) (by kernel_rfl) rfl ?_
                      refine mm_skipU 13 (.load 3 (.tmp 133)) (some 134) 7 true (by kernel_rfl) (by kernel_rfl) (by kernel_rfl) rfl ?_
                      refine mm_skipU 14 (.move (.tmp 10)) (some 135) 7 true (by kernel_rfl) (by kernel_rfl) (by kernel_rfl) rfl ?_
                      refine mm_skipU 15 (.move (.tmp 16)) (some 136) 7 true (by kernel_rfl) (by kernel_rfl) (by kernel_rfl) rfl ?_
                      refine mm_skipU 16 (.binOp .sub 3 (.tmp 136) (.const (.int .i64 (1))) 3) (some 137) 7 true (by kernel_rfl) (by kernel_rfl) (by kernel_rfl) rfl ?_
                      refine mm_skipU 17 (.indexAddr 22 (.tmp 135) (.tmp 137)) (some 138) 7 true (by kernel_rfl) (by kernel_rfl) (by kernel_rfl) rfl ?_
                      refine mm_skipU 18 (.fieldAddr 38 (.tmp 138) 1) (some 139) 7 true (by kernel_rfl) (by kernel_rfl) (by kernel_rfl) rfl ?_
                      refine mm_skipU 19 (.load 3 (.tmp 139)) (some 140) 7 true (by kernel_rfl) (by kernel_rfl) (by kernel_rfl) rfl ?_
                      refine mm_skipU 20 (.call ⟨.builtin .max, #[(.tmp 134), (.tmp 140)], #[3, 3]⟩) (some 141) 7 true (by kernel_rfl) (by kernel_rfl) (by kernel_rfl) rfl ?_
                      refine mm_skipU 21 (.move (.tmp 10)) (some 142) 7 true (by kernel_rfl) (by kernel_rfl) (by kernel_rfl) rfl ?_
                      refine mm_skipU 22 (.move (.tmp 16)) (some 143) 7 true (by kernel_rfl) (by kernel_rfl) (by kernel_rfl) rfl ?_
                      refine mm_skipU 23 (.indexAddr 22 (.tmp 142) (.tmp 143)) (some 144) 7 true (by kernel_rfl) (by kernel_rfl) (by kernel_rfl) rfl ?_
                      refine mm_skipU 24 (.fieldAddr 38 (.tmp 144) 0) (some 145) 7 true (by kernel_rfl) (by kernel_rfl) (by kernel_rfl) rfl ?_
                      refine mm_skipU 25 (.load 3 (.tmp 145)) (some 146) 7 true (by kernel_rfl) (by kernel_rfl) (by kernel_rfl) rfl ?_
                      refine mm_skipU 26 (.move (.tmp 10)) (some 147) 7 true (by kernel_rfl) (by kernel_rfl) (by kernel_rfl) rfl ?_
                      refine mm_skipU 27 (.move (.tmp 16)) (some 148) 7 true (by kernel_rfl) (by kernel_rfl) (by kernel_rfl) rfl ?_
                      refine mm_skipU 28 (.indexAddr 22 (.tmp 147) (.tmp 148)) (some 149) 7 true (by kernel_rfl) (by kernel_rfl) (by kernel_rfl) rfl ?_
                      refine mm_skipU 29 (.fieldAddr 38 (.tmp 149) 1) (some 150) 7 true (by kernel_rfl) (by kernel_rfl) (by kernel_rfl) rfl ?_
                      refine mm_skipU 30 (.load 3 (.tmp 150)) (some 151) 7 true (by kernel_rfl) (by kernel_rfl) (by kernel_rfl) rfl ?_
                      refine mm_skipU 31 (.call ⟨.builtin .max, #[(.tmp 146), (.tmp 151)], #[3, 3]⟩) (some 152) 7 true (by kernel_rfl) (by kernel_rfl) (by kernel_rfl) rfl ?_
                      refine mm_skipU 32 (.binOp .geq 3 (.tmp 141) (.tmp 152) 3) (some 153) 7 true (by kernel_rfl) (by kernel_rfl) (by kernel_rfl) rfl ?_
                      refine mm_skip 33 (.pick (.tmp 128) (.tmp 153) (.const (.bool false))) (some 154) 3 false (b := (decide ((if x_43167.To < x_43163.From then x_43167.To else x_43163.From) > (if x_43175.To < x_43171.From then x_43175.To else x_43171.From)))) (by kernel_rfl) (by kernel_rfl) (by kernel_rfl) h_43232 rfl ?_
                      refine mm_one 34 (.pick (.tmp 124) (.const (.bool true)) (.tmp 154)) (some 155) (by kernel_rfl) (by kernel_rfl) (oH_pure (B true) (ev_pickT h_43232 (by kernel_rfl) (by kernel_rfl)) rfl) ?_
                      refine mm_nil 35 rfl ?_
                      exact hK_43231 _ _ (Option.some.inj h).symm (to_ren [] (leB rfl) (by kernel_rfl) (by kernel_rfl) (renE_of (by kernel_rfl) (by kernel_rfl)) trivial)
                    · refine mm_oneG 4 (.move (.tmp 17)) (some 125) 3 false (b := (decide ((if x_43167.To < x_43163.From then x_43167.To else x_43163.From) > (if x_43175.To < x_43171.From then x_43175.To else x_43171.From)))) (by kernel_rfl) (by kernel_rfl) (by kernel_rfl) h_43232 (oH_pure (I (if x_43167.To < x_43163.From then x_43167.To else x_43163.From)) (by kernel_rfl) rfl) ?_
                      refine mm_oneG 5 (.move (.tmp 18)) (some 126) 3 false (b := (decide ((if x_43167.To < x_43163.From then x_43167.To else x_43163.From) > (if x_43175.To < x_43171.From then x_43175.To else x_43171.From)))) (by kernel_rfl) (by kernel_rfl) (by kernel_rfl) h_43232 (oH_pure (I (if x_43175.To < x_43171.From then x_43175.To else x_43171.From)) (by kernel_rfl) rfl) ?_
                      refine mm_oneG 6 (.binOp .eql 3 (.tmp 125) (.tmp 126) 3) (some 127) 3 false (b := (decide ((if x_43167.To < x_43163.From then x_43167.To else x_43163.From) > (if x_43175.To < x_43171.From then x_43175.To else x_43171.From)))) (by kernel_rfl) (by kernel_rfl) (by kernel_rfl) h_43232 (oH_pure (B ((if x_43167.To < x_43163.From then x_43167.To else x_43163.From) == (if x_43175.To < x_43171.From then x_43175.To else x_43171.From))) (by kernel_rfl) rfl) ?_
                      refine mm_oneG 7 (.move (.tmp 127)) (some 128) 3 false (b := (decide ((if x_43167.To < x_43163.From then x_43167.To else x_43163.From) > (if x_43175.To < x_43171.From then x_43175.To else x_43171.From)))) (by kernel_rfl) (by kernel_rfl) (by kernel_rfl) h_43232 (oH_pure (B ((if x_43167.To < x_43163.From then x_43167.To else x_43163.From) == (if x_43175.To < x_43171.From then x_43175.To else x_43171.From))) (by kernel_rfl) rfl) ?_
                      refine ite_both h (fun h_43233 h => ?_) (fun h_43233 h => ?_)
                      · refine mm_oneG 8 (.move (.tmp 10)) (some 129) 7 true (b := ((if x_43167.To < x_43163.From then x_43167.To else x_43163.From) == (if x_43175.To < x_43171.From then x_43175.To else x_43171.From))) (by kernel_rfl) (by kernel_rfl) (by kernel_rfl) h_43233 (oH_pure (sl 4 cs_Debt x_39614.1) (by kernel_rfl) rfl) ?_
                        refine mm_oneG 9 (.move (.tmp 16)) (some 130) 7 true (b := ((if x_43167.To < x_43163.From then x_43167.To else x_43163.From) == (if x_43175.To < x_43171.From then x_43175.To else x_43171.From))) (by kernel_rfl) (by kernel_rfl) (by kernel_rfl) h_43233 (oH_pure (I s_42991) (by kernel_rfl) rfl) ?_
                        refine mm_oneG 10 (.binOp .sub 3 (.tmp 130) (.const (.int .i64 (1))) 3) (some 131) 7 true (b := ((if x_43167.To < x_43163.From then x_43167.To else x_43163.From) == (if x_43175.To < x_43171.From then x_43175.To else x_43171.From))) (by kernel_rfl) (by kernel_rfl) (by kernel_rfl) h_43233 (oH_pure (I (IntKind.i64.wrap (s_42991 - 1))) (by kernel_rfl) rfl) ?_
                        obtain ⟨x_43242, h_43243, h⟩ := bind_some' h
                        refine mm_oneG 11 (.indexAddr 22 (.tmp 129) (.tmp 131)) (some 132) 7 true (b := ((if x_43167.To < x_43163.From then x_43167.To else x_43163.From) == (if x_43175.To < x_43171.From then x_43175.To else x_43171.From))) (by kernel_rfl) (by kernel_rfl) (by kernel_rfl) h_43233 (oH_pure (.ip (cs_Debt x_43242)) (ev_idx_sl (e := 38) (k := 4) (c := cs_Debt) (ik := .i64) h_43243 (by kernel_rfl) (by kernel_rfl) (by kernel_rfl) (by kernel_rfl)) rfl) ?_
                        refine mm_oneG 12 (.fieldAddr 38 (.tmp 132) 0) (some 133) 7 true (b := ((if x_43167.To < x_43163.From then x_43167.To else x_43163.From) == (if x_43175.To < x_43171.From then x_43175.To else x_43171.From))) (by kernel_rfl) (by kernel_rfl) (by kernel_rfl) h_43233 (oH_pure (.ip (cs_Debt x_43242)) (by kernel_rfl) rfl) ?_
                        refine mm_oneG 13 (.load 3 (.tmp 133)) (some 134) 7 true (b := ((if x_43167.To < x_43163.From then x_43167.To else x_43163.From) == (if x_43175.To < x_43171.From then x_43175.To else x_43171.From))) (by kernel_rfl) (by kernel_rfl) (by kernel_rfl) h_43233 (oH_pure (I x_43242.From) (by kernel_rfl) rfl) ?_
                        refine mm_oneG 14 (.move (.tmp 10)) (some 135) 7 true (b := ((if x_43167.To < x_43163.From then x_43167.To else x_43163.From) == (if x_43175.To < x_43171.From then x_43175.To else x_43171.From))) (by kernel_rfl) (by kernel_rfl) (by kernel_rfl) h_43233 (oH_pure (sl 4 cs_Debt x_39614.1) (by kernel_rfl) rfl) ?_
                        refine mm_oneG 15 (.move (.tmp 16)) (some 136) 7 true (b := ((if x_43167.To < x_43163.From then x_43167.To else x_43163.From) == (if x_43175.To < x_43171.From then x_43175.To else x_43171.From))) (by kernel_rfl) (by kernel_rfl) (by kernel_rfl) h_43233 (oH_pure (I s_42991) (by kernel_rfl) rfl) ?_
                        refine mm_oneG 16 (.binOp .sub 3 (.tmp 136) (.const (.int .i64 (1))) 3) (some 137) 7 true (b := ((if x_43167.To < x_43163.From then x_43167.To else x_43163.From) == (if x_43175.To < x_43171.From then x_43175.To else x_43171.From))) (by kernel_rfl) (by kernel_rfl) (by kernel_rfl) h_43233 (oH_pure (I (IntKind.i64.wrap (s_42991 - 1))) (by kernel_rfl) rfl) ?_
                        obtain ⟨x_43256, h_43257, h⟩ := bind_some' h
                        refine mm_oneG 17 (.indexAddr 22 (.tmp 135) (.tmp 137)) (some 138) 7 true (b := ((if x_43167.To < x_43163.From then x_43167.To else x_43163.From) == (if x_43175.To < x_43171.From then x_43175.To else x_43171.From))) (by kernel_rfl) (by kernel_rfl) (by kernel_rfl) h_43233 (oH_pure (.ip (cs_Debt x_43256)) (ev_idx_sl (e := 38) (k := 4) (c := cs_Debt) (ik := .i64) h_43257 (by kernel_rfl) (by kernel_rfl) (by kernel_rfl) (by kernel_rfl)) rfl) ?_
                        refine mm_oneG 18 (.fieldAddr 38 (.tmp 138) 1) (some 139) 7 true (b := ((if x_43167.To < x_43163.From then x_43167.To else x_43163.From) == (if x_43175.To < x_43171.From then x_43175.To else x_43171.From))) (by kernel_rfl) (by kernel_rfl) (by kernel_rfl) h_43233 (oH_pure (.ip (((cs_Debt x_43256)).drop 1)) (by kernel_rfl) rfl) ?_
                        refine mm_oneG 19 (.load 3 (.tmp 139)) (some 140) 7 true (b := ((if x_43167.To < x_43163.From then x_43167.To else x_43163.From) == (if x_43175.To < x_43171.From then x_43175.To else x_43171.From))) (by kernel_rfl) (by kernel_rfl) (by kernel_rfl) h_43233 (oH_pure (I x_43256.To) (by kernel_rfl) rfl) ?_
                        refine mm_oneG 20 (.call ⟨.builtin .max, #[(.tmp 134), (.tmp 140)], #[3, 3]⟩) (some 141) 7 true (b := ((if x_43167.To < x_43163.From then x_43167.To else x_43163.From) == (if x_43175.To < x_43171.From then x_43175.To else x_43171.From))) (by kernel_rfl) (by kernel_rfl) (by kernel_rfl) h_43233 (oH_pure (I (if x_43256.To > x_43242.From then x_43256.To else x_43242.From)) (by kernel_rfl) rfl) ?_
                        refine mm_oneG 21 (.move (.tmp 10)) (some 142) 7 true (b := ((if x_43167.To < x_43163.From then x_43167.To else x_43163.From) == (if x_43175.To < x_43171.From then x_43175.To else x_43171.From))) (by kernel_rfl) (by kernel_rfl) (by kernel_rfl) h_43233 (oH_pure (sl 4 cs_Debt x_39614.1) (by kernel_rfl) rfl) ?_
                        refine mm_oneG 22 (.move (.tmp 16)) (some 143) 7 true (b := ((if x_43167.To < x_43163.From then x_43167.To else x_43163.From) == (if x_43175.To < x_43171.From then x_43175.To else x_43171.From))) (by kernel_rfl) (by kernel_rfl) (by kernel_rfl) h_43233 (oH_pure (I s_42991) (by kernel_rfl) rfl) ?_
                        obtain ⟨x_43270, h_43271, h⟩ := bind_some' h
                        refine mm_oneG 23 (.indexAddr 22 (.tmp 142) (.tmp 143)) (some 144) 7 true (b := ((if x_43167.To < x_43163.From then x_43167.To else x_43163.From) == (if x_43175.To < x_43171.From then x_43175.To else x_43171.From))) (by kernel_rfl) (by kernel_rfl) (by kernel_rfl) h_43233 (oH_pure (.ip (cs_Debt x_43270)) (ev_idx_sl (e := 38) (k := 4) (c := cs_Debt) (ik := .i64) h_43271 (by kernel_rfl) (by kernel_rfl) (by kernel_rfl) (by kernel_rfl)) rfl) ?_
                        refine mm_oneG 24 (.fieldAddr 38 (.tmp 144) 0) (some 145) 7 true (b := ((if x_43167.To < x_43163.From then x_43167.To else x_43163.From) == (if x_43175.To < x_43171.From then x_43175.To else x_43171.From))) (by kernel_rfl) (by kernel_rfl) (by kernel_rfl) h_43233 (oH_pure (.ip (cs_Debt x_43270)) (by kernel_rfl) rfl) ?_
                        refine mm_oneG 25 (.load 3 (.tmp 145)) (some 146) 7 true (b := ((if x_43167.To < x_43163.From then x_43167.To else x_43163.From) == (if x_43175.To < x_43171.From then x_43175.To else x_43171.From))) (by kernel_rfl) (by kernel_rfl) (by kernel_rfl) h_43233 (oH_pure (I x_43270.From) (by kernel_rfl) rfl) ?_
                        refine mm_oneG 26 (.move (.tmp 10)) (some 147) 7 true (b := ((if x_43167.To < x_43163.From then x_43167.To else x_43163.From) == (if x_43175.To < x_43171.From then x_43175.To else x_43171.From))) (by kernel_rfl) (by kernel_rfl) (by kernel_rfl) h_43233 (oH_pure (sl 4 cs_Debt x_39614.1) (by kernel_rfl) rfl) ?_
                        refine mm_oneG 27 (.move (.tmp 16)) (some 148) 7 true (b := ((if x_43167.To < x_43163.From then x_43167.To else x_43163.From) == (if x_43175.To < x_43171.From then x_43175.To else x_43171.From))) (by kernel_rfl) (by kernel_rfl) (by kernel_rfl) h_43233 (oH_pure (I s_42991) (by kernel_rfl) rfl) ?_
                        obtain ⟨x_43282, h_43283, h⟩ := bind_some' h
                        refine mm_oneG 28 (.indexAddr 22 (.tmp 147) (.tmp 148)) (some 149) 7 true (b := ((if x_43167.To < x_43163.From then x_43167.To else x_43163.From) == (if x_43175.To < x_43171.From then x_43175.To else x_43171.From))) (by kernel_rfl) (by kernel_rfl) (by kernel_rfl) h_43233 (oH_pure (.ip (cs_Debt x_43282)) (ev_idx_sl (e := 38) (k := 4) (c := cs_Debt) (ik := .i64) h_43283 (by kernel_rfl) (by kernel_rfl) (by kernel_rfl) (by kernel_rfl)) rfl) ?_
                        refine mm_oneG 29 (.fieldAddr 38 (.tmp 149) 1) (some 150) 7 true (b := ((if x_43167.To < x_43163.From then x_43167.To else x_43163.From) == (if x_43175.To < x_43171.From then x_43175.To else x_43171.From))) (by kernel_rfl) (by kernel_rfl) (by kernel_rfl) h_43233 (oH_pure (.ip (((cs_Debt x_43282)).drop 1)) (by kernel_rfl) rfl) ?_
                        refine mm_oneG 30 (.load 3 (.tmp 150)) (some 151) 7 true (b := ((if x_43167.To < x_43163.From then x_43167.To else x_43163.From) == (if x_43175.To < x_43171.From then x_43175.To else x_43171.From))) (by kernel_rfl) (by kernel_rfl) (by kernel_rfl) h_43233 (oH_pure (I x_43282.To) (by kernel_rfl) rfl) ?_
                        refine mm_oneG 31 (.call ⟨.builtin .max, #[(.tmp 146), (.tmp 151)], #[3, 3]⟩) (some 152) 7 true (b := ((if x_43167.To < x_43163.From then x_43167.To else x_43163.From) == (if x_43175.To < x_43171.From then x_43175.To else x_43171.From))) (by kernel_rfl) (by kernel_rfl) (by kernel_rfl) h_43233 (oH_pure (I (if x_43282.To > x_43270.From then x_43282.To else x_43270.From)) (by kernel_rfl) rfl) ?_
                        refine mm_oneG 32 (.binOp .geq 3 (.tmp 141) (.tmp 152) 3) (some 153) 7 true (b := ((if x_43167.To < x_43163.From then x_43167.To else x_43163.From) == (if x_43175.To < x_43171.From then x_43175.To else x_43171.From))) (by kernel_rfl) (by kernel_rfl) (by kernel_rfl) h_43233 (oH_pure (B (decide ((if x_43256.To > x_43242.From then x_43256.To else x_43242.From) ≥ (if x_43282.To > x_43270.From then x_43282.To else x_43270.From)))) (by kernel_rfl) rfl) ?_
                        refine mm_oneG 33 (.pick (.tmp 128) (.tmp 153) (.const (.bool false))) (some 154) 3 false (b := (decide ((if x_43167.To < x_43163.From then x_43167.To else x_43163.From) > (if x_43175.To < x_43171.From then x_43175.To else x_43171.From)))) (by kernel_rfl) (by kernel_rfl) (by kernel_rfl) h_43232 (oH_pure (B (decide ((if x_43256.To > x_43242.From then x_43256.To else x_43242.From) ≥ (if x_43282.To > x_43270.From then x_43282.To else x_43270.From)))) (ev_pickT h_43233 (by kernel_rfl) (by kernel_rfl)) rfl) ?_
                        refine mm_one 34 (.pick (.tmp 124) (.const (.bool true)) (.tmp 154)) (some 155) (by kernel_rfl) (by kernel_rfl) (oH_pure (B (decide ((if x_43256.To > x_43242.From then x_43256.To else x_43242.From) ≥ (if x_43282.To > x_43270.From then x_43282.To else x_43270.From)))) (ev_pickF h_43232 (by kernel_rfl) (by kernel_rfl)) rfl) ?_
                        refine mm_nil 35 rfl ?_
                        exact hK_43231 _ _ (Option.some.inj h).symm (to_ren [] (leB rfl) (by kernel_rfl) (by kernel_rfl) (renE_of (by kernel_rfl) (by kernel_rfl)) trivial)
                      · refine mm_skip 8 (.move (.tmp 10)) (some 129) 7 true (b := ((if x_43167.To < x_43163.From then x_43167.To else x_43163.From) == (if x_43175.To < x_43171.From then x_43175.To else x_43171.From))) (by kernel_rfl) (by kernel_rfl) (by kernel_rfl) h_43233 rfl ?_
                        refine mm_skip 9 (.move (.tmp 16)) (some 130) 7 true (b := ((if x_43167.To < x_43163.From then x_43167.To else x_43163.From) == (if x_43175.To < x_43171.From then x_43175.To else x_43171.From))) (by kernel_rfl) (by kernel_rfl) (by kernel_rfl) h_43233 rfl ?_
                        refine mm_skip 10 (.binOp .sub 3 (.tmp 130) (.const (.int .i64 (1))) 3) (some 131) 7 true (b := ((if x_43167.To < x_43163.From then x_43167.To else x_43163.From) == (if x_43175.To < x_43171.From then x_43175.To else x_43171.From))) (by kernel_rfl) (by kernel_rfl) (by kernel_rfl) h_43233 rfl ?_
                        refine mm_skip 11 (.indexAddr 22 (.tmp 129) (.tmp 131)) (some 132) 7 true (b := ((if x_43167.To < x_43163.From then x_43167.To else x_43163.From) == (if x_43175.To < x_43171.From then x_43175.To else x_43171.From))) (by kernel_rfl) (by kernel_rfl) (by kernel_rfl) h_43233 rfl ?_
                        refine mm_skip 12 (.fieldAddr 38 (.tmp 132) 0) (some 133) 7 true (b := ((if x_43167.To < x_43163.From then x_43167.To else x_43163.From) == (if x_43175.To < x_43171.From then x_43175.To else x_43171.From))) (by kernel_rfl) (by kernel_rfl) (by kernel_rfl) h_43233 rfl ?_
                        refine mm_skip 13 (.load 3 (.tmp 133)) (some 134) 7 true (b := ((if x_43167.To < x_43163.From then x_43167.To else x_43163.From) == (if x_43175.To < x_43171.From then x_43175.To else x_43171.From))) (by kernel_rfl) (by kernel_rfl) (by kernel_rfl) h_43233 rfl ?_
                        refine mm_skip 14 (.move (.tmp 10)) (some 135) 7 true (b := ((if x_43167.To < x_43163.From then x_43167.To else x_43163.From) == (if x_43175.To < x_43171.From then x_43175.To else x_43171.From))) (by kernel_rfl) (by kernel_rfl) (by kernel_rfl) h_43233 rfl ?_
                        refine mm_skip 15 (.move (.tmp 16)) (some 136) 7 true (b := ((if x_43167.To < x_43163.From then x_43167.To else x_43163.From) == (if x_43175.To < x_43171.From then x_43175.To else x_43171.From))) (by kernel_rfl) (by kernel_rfl) (by kernel_rfl) h_43233 rfl ?_
                        refine mm_skip 16 (.binOp .sub 3 (.tmp 136) (.const (.int .i64 (1))) 3) (some 137) 7 true (b := ((if x_43167.To < x_43163.From then x_43167.To else x_43163.From) == (if x_43175.To < x_43171.From then x_43175.To else x_43171.From))) (by kernel_rfl) (by kernel_rfl) (by kernel_rfl) h_43233 rfl ?_
                        refine mm_skip 17 (.indexAddr 22 (.tmp 135) (.tmp 137)) (some 138) 7 true (b := ((if x_43167.To < x_43163.From then x_43167.To else x_43163.From) == (if x_43175.To < x_43171.From then x_43175.To else x_43171.From))) (by kernel_rfl) (by kernel_rfl) (by kernel_rfl) h_43233 rfl ?_
                        refine mm_skip 18 (.fieldAddr 38 (.tmp 138) 1) (some 139) 7 true (b := ((if x_43167.To < x_43163.From then x_43167.To else x_43163.From) == (if x_43175.To < x_43171.From then x_43175.To else x_43171.From))) (by kernel_rfl) (by kernel_rfl) (by kernel_rfl) h_43233 rfl ?_
                        refine mm_skip 19 (.load 3 (.tmp 139)) (some 140) 7 true (b := ((if x_43167.To < x_43163.From then x_43167.To else x_43163.From) == (if x_43175.To < x_43171.From then x_43175.To else x_43171.From))) (by kernel_rfl) (by kernel_rfl) (by kernel_rfl) h_43233 rfl ?_
                        refine mm_skip 20 (.call ⟨.builtin .max, #[(.tmp 134), (.tmp 140)], #[3, 3]⟩) (some 141) 7 true (b := ((if x_43167.To < x_43163.From then x_43167.To else x_43163.From) == (if x_43175.To < x_43171.From then x_43175.To else x_43171.From))) (by kernel_rfl) (by kernel_rfl) (by kernel_rfl) h_43233 rfl ?_
                        refine mm_skip 21 (.move (.tmp 10)) (some 142) 7 true (b := ((if x_43167.To < x_43163.From then x_43167.To else x_43163.From) == (if x_43175.To < x_43171.From then x_43175.To else x_43171.From))) (by kernel_rfl) (by kernel_rfl) (by kernel_rfl) h_43233 rfl ?_
                        refine mm_skip 22 (.move (.tmp 16)) (some 143) 7 true (b := ((if x_43167.To < x_43163.From then x_43167.To else x_43163.From) == (if x_43175.To < x_43171.From then x_43175.To else x_43171.From))) (by kernel_rfl) (by kernel_rfl) (by kernel_rfl) h_43233 rfl ?_
                        refine mm_skip 23 (.indexAddr 22 (.tmp 142) (.tmp 143)) (some 144) 7 true (b := ((if x_43167.To < x_43163.From then x_43167.To else x_43163.From) == (if x_43175.To < x_43171.From then x_43175.To else x_43171.From))) (by kernel_rfl) (by kernel_rfl) (by kernel_rfl) h_43233 rfl ?_
                        refine mm_skip 24 (.fieldAddr 38 (.tmp 144) 0) (some 145) 7 true (b := ((if x_43167.To < x_43163.From then x_43167.To else x_43163.From) == (if x_43175.To < x_43171.From then x_43175.To else x_43171.From))) (by kernel_rfl) (by kernel_rfl) (by kernel_rfl) h_43233 rfl ?_
                        refine mm_skip 25 (.load 3 (.tmp 145)) (some 146) 7 true (b := ((if x_43167.To < x_43163.From then x_43167.To else x_43163.From) == (if x_43175.To < x_43171.From then x_43175.To else x_43171.From))) (by kernel_rfl) (by kernel_rfl) (by kernel_rfl) h_43233 rfl ?_
                        refine mm_skip 26 (.move (.tmp 10)) (some 147) 7 true (b := ((if x_43167.To < x_43163.From then x_43167.To else x_43163.From) == (if x_43175.To < x_43171.From then x_43175.To else x_43171.From))) (by kernel_rfl) (by kernel_rfl) (by kernel_rfl) h_43233 rfl ?_
                        refine mm_skip 27 (.move (.tmp 16)) (some 148) 7 true (b := ((if x_43167.To < x_43163.From then x_43167.To else x_43163.From) == (if x_43175.To < x_43171.From then x_43175.To else x_43171.From))) (by kernel_rfl) (by kernel_rfl) (by kernel_rfl) h_43233 rfl ?_
                        refine mm_skip 28 (.indexAddr 22 (.tmp 147) (.tmp 148)) (some 149) 7 true (b := ((if x_43167.To < x_43163.From then x_43167.To else x_43163.From) == (if x_43175.To < x_43171.From then x_43175.To else x_43171.From))) (by kernel_rfl) (by kernel_rfl) (by kernel_rfl) h_43233 rfl ?_
                        refine mm_skip 29 (.fieldAddr 38 (.tmp 149) 1) (some 150) 7 true (b := ((if x_43167.To < x_43163.From then x_43167.To else x_43163.From) == (if x_43175.To < x_43171.From then x_43175.To else x_43171.From))) (by kernel_rfl) (by kernel_rfl) (by kernel_rfl) h_43233 rfl ?_
                        refine mm_skip 30 (.load 3 (.tmp 150)) (some 151) 7 true (b := ((if x_43167.To < x_43163.From then x_43167.To else x_43163.From) == (if x_43175.To < x_43171.From then x_43175.To else x_43171.From))) (by kernel_rfl) (by kernel_rfl) (by kernel_rfl) h_43233 rfl ?_
                        refine mm_skip 31 (.call ⟨.builtin .max, #[(.tmp 146), (.tmp 151)], #[3, 3]⟩) (some 152) 7 true (b := ((if x_43167.To < x_43163.From then x_43167.To else x_43163.From) == (if x_43175.To < x_43171.From then x_43175.To else x_43171.From))) (by kernel_rfl) (by kernel_rfl) (by kernel_rfl) h_43233 rfl ?_
                        refine mm_skip 32 (.binOp .geq 3 (.tmp 141) (.tmp 152) 3) (some 153) 7 true (b := ((if x_43167.To < x_43163.From then x_43167.To else x_43163.From) == (if x_43175.To < x_43171.From then x_43175.To else x_43171.From))) (by kernel_rfl) (by kernel_rfl) (by kernel_rfl) h_43233 rfl ?_
                        refine mm_oneG 33 (.pick (.tmp 128) (.tmp 153) (.const (.bool false))) (some 154) 3 false (b := (decide ((if x_43167.To < x_43163.From then x_43167.To else x_43163.From) > (if x_43175.To < x_43171.From then x_43175.To else x_43171.From)))) (by kernel_rfl) (by kernel_rfl) (by kernel_rfl) h_43232 (oH_pure (B false) (ev_pickF h_43233 (by kernel_rfl) (by kernel_rfl)) rfl) ?_
                        refine mm_one 34 (.pick (.tmp 124) (.const (.bool true)) (.tmp 154)) (some 155) (by kernel_rfl) (by kernel_rfl) (oH_pure (B false) (ev_pickF h_43232 (by kernel_rfl) (by kernel_rfl)) rfl) ?_
                        refine mm_nil 35 rfl ?_
                        exact hK_43231 _ _ (Option.some.inj h).symm (to_ren [] (leB rfl) (by kernel_rfl) (by kernel_rfl) (renE_of (by kernel_rfl) (by kernel_rfl)) trivial)
                  · refine w_ite h (by kernel_rfl) (fun h_43284 h => ?_) (fun h_43284 h => ?_)
                    · refine w_reg ⟨[(4, B false)], [], 0⟩ (by kernel_rfl) (leB rfl) ?_
                      refine w_ret ?_
                      obtain rfl := ((h_42405 _ (h_42992 _ (Option.some.inj h).symm).symm).symm).symm
                      exact ret_leaf (.inl rfl) ⟨[(4, B false)], [], 0⟩ (to_ren [] (leB rfl) (by kernel_rfl) (by kernel_rfl) (renE_of (by kernel_rfl) (by kernel_rfl)) trivial) [B false] (by kernel_rfl) (by kernel_rfl) (leB rfl) (by kernel_rfl) trivial
                    · refine w_skip ?_
                      refine hK_43141 _ ⟨[(5, B x_39595), (8, sl 4 cs_Debt x_39609.1), (10, sl 4 cs_Debt x_39614.1), (12, I e_39720), (16, I s_42991)], [], 0⟩ (to_trim (by kernel_rfl) (leB rfl)) ?_
                      refine w_reg0 ?_
                      refine dd_run 0 3 rfl (by kernel_rfl) ?_
                      refine dd_nil 3 rfl ?_
                      exact hK_42993 _ _ (Option.some.inj h).symm (to_ren [] (leB rfl) (by kernel_rfl) (by kernel_rfl) (renE_of (by kernel_rfl) (by kernel_rfl)) trivial)
                · refine w_exit ?_
                  exact hK_42406 _ _ (h_42992 _ (Option.some.inj h).symm).symm (to_ren [] (leB rfl) (by kernel_rfl) (by kernel_rfl) (renE_of (by kernel_rfl) (by kernel_rfl)) trivial)
            · refine w_seq (fun K hK_43288 => w_reg0 ?_)
              refine dd_run 0 2 rfl (by kernel_rfl) ?_
              refine ite_both h (fun h_43289 h => ?_) (fun h_43289 h => ?_)
              · refine dd_runG 2 3 1 true rfl (b := x_39595) (by kernel_rfl) h_43289 (by kernel_rfl) ?_
                refine dd_oneG 3 (.call ⟨.builtin .len, #[(.tmp 158)], #[22]⟩) (some 159) 1 true (b := x_39595) (by kernel_rfl) (by kernel_rfl) h_43289 (o_pure (I (x_39609.1.length : Int)) (ev_len_sl (e := 38) (ty := 0) (k := 4) (c := cs_Debt) (by kernel_rfl) (by kernel_rfl)) rfl) ?_
                refine dd_runG 4 7 1 true rfl (b := x_39595) (by kernel_rfl) h_43289 (by kernel_rfl) ?_
                refine ite_both h (fun h_43290 h => ?_) (fun h_43290 h => ?_)
                · refine dd_skip 7 11 6 false rfl (b := (decide ((x_39609.1.length : Int) < e_39720))) (by kernel_rfl) h_43290 (by kernel_rfl) ?_
                  refine dd_skipU 11 13 10 true rfl (by kernel_rfl) (by kernel_rfl) ?_
                  refine dd_skip 13 14 6 false rfl (b := (decide ((x_39609.1.length : Int) < e_39720))) (by kernel_rfl) h_43290 (by kernel_rfl) ?_
                  refine dd_oneG 14 (.pick (.tmp 162) (.const (.bool true)) (.tmp 169)) (some 170) 1 true (b := x_39595) (by kernel_rfl) (by kernel_rfl) h_43289 (o_pure (B true) (ev_pickT h_43290 (by kernel_rfl) (by kernel_rfl)) rfl) ?_
                  refine dd_one 15 (.pick (.tmp 157) (.tmp 170) (.const (.bool false))) (some 171) (by kernel_rfl) (o_pure (B true) (ev_pickT h_43289 (by kernel_rfl) (by kernel_rfl)) rfl) ?_
                  refine ops_fin' hK_43288 ⟨[(4, B true)], [], 0⟩ (by kernel_rfl) (leB rfl) ?_
                  refine w_ret ?_
                  obtain rfl := ((Option.some.inj h).symm).symm
                  exact ret_leaf (.inl rfl) ⟨[(4, B true)], [], 0⟩ (to_ren [] (leB rfl) (by kernel_rfl) (by kernel_rfl) (renE_of (by kernel_rfl) (by kernel_rfl)) trivial) [B true] (by kernel_rfl) (by kernel_rfl) (leB rfl) (by kernel_rfl) trivial
                · refine dd_runG 7 8 6 false rfl (b := (decide ((x_39609.1.length : Int) < e_39720))) (by kernel_rfl) h_43290 (by kernel_rfl) ?_
                  refine dd_oneG 8 (.call ⟨.builtin .len, #[(.tmp 163)], #[22]⟩) (some 164) 6 false (b := (decide ((x_39609.1.length : Int) < e_39720))) (by kernel_rfl) (by kernel_rfl) h_43290 (o_pure (I (x_39609.1.length : Int)) (ev_len_sl (e := 38) (ty := 0) (k := 4) (c := cs_Debt) (by kernel_rfl) (by kernel_rfl)) rfl) ?_
                  refine dd_runG 9 11 6 false rfl (b := (decide ((x_39609.1.length : Int) < e_39720))) (by kernel_rfl) h_43290 (by kernel_rfl) ?_
                  refine ite_both h (fun h_43291 h => ?_) (fun h_43291 h => ?_)
                  · refine dd_runG 11 13 10 true rfl (b := ((x_39609.1.length : Int) == 0)) (by kernel_rfl) h_43291 (by kernel_rfl) ?_
                    refine dd_oneG 13 (.pick (.tmp 166) (.tmp 168) (.const (.bool false))) (some 169) 6 false (b := (decide ((x_39609.1.length : Int) < e_39720))) (by kernel_rfl) (by kernel_rfl) h_43290 (o_pure (B (e_39720 == 0)) (ev_pickT h_43291 (by kernel_rfl) (by kernel_rfl)) rfl) ?_
                    refine dd_oneG 14 (.pick (.tmp 162) (.const (.bool true)) (.tmp 169)) (some 170) 1 true (b := x_39595) (by kernel_rfl) (by kernel_rfl) h_43289 (o_pure (B (e_39720 == 0)) (ev_pickF h_43290 (by kernel_rfl) (by kernel_rfl)) rfl) ?_
                    refine dd_one 15 (.pick (.tmp 157) (.tmp 170) (.const (.bool false))) (some 171) (by kernel_rfl) (o_pure (B (e_39720 == 0)) (ev_pickT h_43289 (by kernel_rfl) (by kernel_rfl)) rfl) ?_
                    refine ops_fin' hK_43288 ⟨[(4, B (e_39720 == 0))], [], 0⟩ (by kernel_rfl) (leB rfl) ?_
                    refine w_ret ?_
                    obtain rfl := ((Option.some.inj h).symm).symm
                    exact ret_leaf (.inl rfl) ⟨[(4, B (e_39720 == 0))], [], 0⟩ (to_ren [] (leB rfl) (by kernel_rfl) (by kernel_rfl) (renE_of (by kernel_rfl) (by kernel_rfl)) trivial) [B (e_39720 == 0)] (by kernel_rfl) (by kernel_rfl) (leB rfl) (by kernel_rfl) trivial
                  · refine dd_skip 11 13 10 true rfl (b := ((x_39609.1.length : Int) == 0)) (by kernel_rfl) h_43291 (by kernel_rfl) ?_
                    refine dd_oneG 13 (.pick (.tmp 166) (.tmp 168) (.const (.bool false))) (some 169) 6 false (b := (decide ((x_39609.1.length : Int) < e_39720))) (by kernel_rfl) (by kernel_rfl) h_43290 (o_pure (B false) (ev_pickF h_43291 (by kernel_rfl) (by kernel_rfl)) rfl) ?_
                    refine dd_oneG 14 (.pick (.tmp 162) (.const (.bool true)) (.tmp 169)) (some 170) 1 true (b := x_39595) (by kernel_rfl) (by kernel_rfl) h_43289 (o_pure (B false) (ev_pickF h_43290 (by kernel_rfl) (by kernel_rfl)) rfl) ?_
                    refine dd_one 15 (.pick (.tmp 157) (.tmp 170) (.const (.bool false))) (some 171) (by kernel_rfl) (o_pure (B false) (ev_pickT h_43289 (by kernel_rfl) (by kernel_rfl)) rfl) ?_
                    refine ops_fin' hK_43288 ⟨[(4, B false)], [], 0⟩ (by kernel_rfl) (leB rfl) ?_
                    refine w_ret ?_
                    obtain rfl := ((Option.some.inj h).symm).symm
                    exact ret_leaf (.inl rfl) ⟨[(4, B false)], [], 0⟩ (to_ren [] (leB rfl) (by kernel_rfl) (by kernel_rfl) (renE_of (by kernel_rfl) (by kernel_rfl)) trivial) [B false] (by kernel_rfl) (by kernel_rfl) (leB rfl) (by kernel_rfl) trivial
              · refine dd_skip 2 7 1 true rfl (b := x_39595) (by kernel_rfl) h_43289 (by kernel_rfl) ?_
                refine dd_skipU 7 11 6 false rfl (by kernel_rfl) (by kernel_rfl) ?_
                refine dd_skipU 11 13 10 true rfl (by kernel_rfl) (by kernel_rfl) ?_
                refine dd_skipU 13 14 6 false rfl (by kernel_rfl) (by kernel_rfl) ?_
                refine dd_skip 14 15 1 true rfl (b := x_39595) (by kernel_rfl) h_43289 (by kernel_rfl) ?_
                refine dd_one 15 (.pick (.tmp 157) (.tmp 170) (.const (.bool false))) (some 171) (by kernel_rfl) (o_pure (B false) (ev_pickF h_43289 (by kernel_rfl) (by kernel_rfl)) rfl) ?_
                refine ops_fin' hK_43288 ⟨[(4, B false)], [], 0⟩ (by kernel_rfl) (leB rfl) ?_
                refine w_ret ?_
                obtain rfl := ((Option.some.inj h).symm).symm
                exact ret_leaf (.inl rfl) ⟨[(4, B false)], [], 0⟩ (to_ren [] (leB rfl) (by kernel_rfl) (by kernel_rfl) (renE_of (by kernel_rfl) (by kernel_rfl)) trivial) [B false] (by kernel_rfl) (by kernel_rfl) (leB rfl) (by kernel_rfl) trivial
end Go.Proofs.Ytgggekjhfdkgkaa.Ab
