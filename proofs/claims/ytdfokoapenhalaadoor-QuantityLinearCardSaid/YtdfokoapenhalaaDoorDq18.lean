/- Functions of the program as plain functions (printed by wip/dec.py). -/
import Derived.Test.YtdfokoapenhalaaDoorDq1
import Derived.Test.YtdfokoapenhalaaDoorDq5
import Derived.Test.YtdfokoapenhalaaDoorDq12
import Derived.Test.YtdfokoapenhalaaDoorDq17
namespace Go.Proofs.YtdfokoapenhalaaDoor.Ab
open Go Go.RowKit Go.Shelf
/-- estoppel/estoppellaw04.QuantityBack -/
def g_estoppellaw04_QuantityBack (a1 : List D.Unit) (a2 : D.Amount) (a3 : Int) : Option (Bool) :=
  (g_estoppellaw04_head).bind fun x_43509 =>
  (g_estoppellaw04_small a1 []).bind fun x_43514 =>
  if (!x_43514) = true then
  some x_43509
  else
  (g_quantity_Convert a1 a2 a3).bind fun x_43522 =>
  if (x_43522.2 != 0) = true then
  if x_43509 = true then
  some (decide (x_43522.1 = (D.Amount.mk 0 (D.Ratio.mk 0 0))))
  else
  some false
  else
  (g_quantity_Convert a1 x_43522.1 a2.Unit).bind fun x_43536 =>
  if x_43509 = true then
  if (x_43522.1.Unit == a3) = true then
  (g_ratio_Valid x_43522.1.Value).bind fun x_43547 =>
  if x_43547 = true then
  if (x_43536.2 == 0) = true then
  some (decide (x_43536.1 = a2))
  else
  some false
  else
  some false
  else
  some false
  else
  some false
set_option maxHeartbeats 4000000 in
theorem g_estoppellaw04_QuantityBack_ok {a1 : List D.Unit} {a2 : D.Amount} {a3 : Int} {res : Bool} (h : g_estoppellaw04_QuantityBack a1 a2 a3 = some res) : SpecK Tryd.prog [] 5 [sl 5 cs_Unit a1, .agg (cs_Amount a2), I a3] [] 0 (B res) [] 0 := by
  refine ⟨spec_of_wp Tryd.func5 (by kernel_rfl) rfl Tryd.ntmps5 (by rw [Tryd.results5]) (leB rfl) ?_, by kernel_rfl, trivial, by kernel_rfl, trivial, by kernel_rfl⟩
  unfold g_estoppellaw04_QuantityBack at h
  refine w_reg ⟨[(0, sl 5 cs_Unit a1), (2, I a3), (4, .ip (cs_Amount a2))], [], 0⟩ (by kernel_rfl) (leB rfl) ?_
  refine w_seq (fun K hK_43508 => w_reg0 ?_)
  obtain ⟨x_43509, h_43510, h⟩ := bind_some' h
  refine dd_one 0 (.call ⟨.value (.func 11), #[], #[]⟩) (some 12) (by kernel_rfl) (o_callP (g_estoppellaw04_head_ok h_43510) (by kernel_rfl) rfl) ?_
  refine ops_fin' hK_43508 ⟨[(0, sl 5 cs_Unit a1), (2, I a3), (4, .ip (cs_Amount a2)), (7, B x_43509)], [], 0⟩ (by kernel_rfl) (leB rfl) ?_
  refine w_assoc ?_
  refine w_seq (fun K hK_43513 => w_reg0 ?_)
  refine dd_run 0 1 rfl (by kernel_rfl) ?_
  obtain ⟨x_43514, h_43515, h⟩ := bind_some' h
  refine dd_one 1 (.call ⟨.value (.func 12), #[(.tmp 13), (.const (.slice none 0 0))], #[22, 23]⟩) (some 14) (by kernel_rfl) (o_callPS (g_estoppellaw04_small_ok h_43515) [sl 5 cs_Unit a1, Nl] (by kernel_rfl) (.cons (Sub.refl _) (.cons (Sub.nil 3) (.nil))) rfl) ?_
  refine ops_fin' hK_43513 ⟨[(0, sl 5 cs_Unit a1), (2, I a3), (4, .ip (cs_Amount a2)), (7, B x_43509), (15, B (!x_43514))], [], 0⟩ (by kernel_rfl) (leB rfl) ?_
  refine w_seq (fun K hK_43517 => ?_)
  refine w_ite h (by kernel_rfl) (fun h_43518 h => ?_) (fun h_43518 h => ?_)
  · refine w_reg ⟨[(6, B x_43509)], [], 0⟩ (by kernel_rfl) (leB rfl) ?_
    refine w_ret ?_
    obtain rfl := ((Option.some.inj h).symm).symm
    exact ret_leaf (.inl rfl) ⟨[(6, B x_43509)], [], 0⟩ (to_ren [] (leB rfl) (by kernel_rfl) (by kernel_rfl) (renE_of (by kernel_rfl) (by kernel_rfl)) trivial) [B x_43509] (by kernel_rfl) (by kernel_rfl) (leB rfl) (by kernel_rfl) trivial
  · refine w_skip ?_
    refine hK_43517 _ ⟨[(0, sl 5 cs_Unit a1), (2, I a3), (4, .ip (cs_Amount a2)), (7, B x_43509)], [], 0⟩ (to_trim (by kernel_rfl) (leB rfl)) ?_
    refine w_seq (fun K hK_43521 => w_reg0 ?_)
    refine dd_run 0 3 rfl (by kernel_rfl) ?_
    obtain ⟨x_43522, h_43523, h⟩ := bind_some' h
    refine dd_one 3 (.call ⟨.value (.func 17), #[(.tmp 18), (.tmp 19), (.tmp 20)], #[22, 33, 3]⟩) (some 21) (by kernel_rfl) (o_callP (g_quantity_Convert_ok h_43523) (by kernel_rfl) rfl) ?_
    refine ops_fin' hK_43521 ⟨[(0, sl 5 cs_Unit a1), (2, I a3), (4, .ip (cs_Amount a2)), (7, B x_43509), (8, .ptr 0 0), (9, I x_43522.2)], [(0, ⟨33, 0, (cs_Amount x_43522.1)⟩)], 1⟩ (by kernel_rfl) (leB rfl) ?_
    refine w_assoc ?_
    refine w_reg ⟨[(0, sl 5 cs_Unit a1), (2, I a3), (4, .ip (cs_Amount a2)), (7, B x_43509), (8, .ptr 0 0), (25, B (x_43522.2 != 0))], [(0, ⟨33, 0, (cs_Amount x_43522.1)⟩)], 1⟩ (by kernel_rfl) (leB rfl) ?_
    refine w_seq (fun K hK_43528 => ?_)
    refine w_ite h (by kernel_rfl) (fun h_43529 h => ?_) (fun h_43529 h => ?_)
    · refine w_seq (fun K hK_43531 => w_reg0 ?_)
      refine dd_run 0 2 rfl (by kernel_rfl) ?_
      refine ite_both h (fun h_43532 h => ?_) (fun h_43532 h => ?_)
      · refine dd_runG 2 4 1 true rfl (b := x_43509) (by kernel_rfl) h_43532 (by kernel_rfl) ?_
        refine dd_oneG 4 (.binOp .eql 33 (.tmp 28) (.tmp 29) 33) (some 30) 1 true (b := x_43509) (by kernel_rfl) (by kernel_rfl) h_43532 (o_cmp (x := .agg (cs_Amount x_43522.1)) (y := .agg [I 0, I 0, I 0]) (decide (x_43522.1 = (D.Amount.mk 0 (D.Ratio.mk 0 0)))) (by kernel_rfl) (by kernel_rfl) (by kernel_rfl) (eql_Amount x_43522.1 (D.Amount.mk 0 (D.Ratio.mk 0 0))) rfl) ?_
        refine dd_one 5 (.pick (.tmp 27) (.tmp 30) (.const (.bool false))) (some 31) (by kernel_rfl) (o_pure (B (decide (x_43522.1 = (D.Amount.mk 0 (D.Ratio.mk 0 0))))) (ev_pickT h_43532 (by kernel_rfl) (by kernel_rfl)) rfl) ?_
        refine ops_fin' hK_43531 ⟨[(6, B (decide (x_43522.1 = (D.Amount.mk 0 (D.Ratio.mk 0 0)))))], [(0, ⟨33, 0, (cs_Amount x_43522.1)⟩)], 1⟩ (by kernel_rfl) (leB rfl) ?_
        refine w_ret ?_
        obtain rfl := ((Option.some.inj h).symm).symm
        exact ret_leaf (.inl rfl) ⟨[(6, B (decide (x_43522.1 = (D.Amount.mk 0 (D.Ratio.mk 0 0)))))], [], 0⟩ (to_ren [] (leB rfl) (by kernel_rfl) (by kernel_rfl) (renE_of (by kernel_rfl) (by kernel_rfl)) trivial) [B (decide (x_43522.1 = (D.Amount.mk 0 (D.Ratio.mk 0 0))))] (by kernel_rfl) (by kernel_rfl) (leB rfl) (by kernel_rfl) trivial
      · refine dd_skip 2 5 1 true rfl (b := x_43509) (by kernel_rfl) h_43532 (by kernel_rfl) ?_
        refine dd_one 5 (.pick (.tmp 27) (.tmp 30) (.const (.bool false))) (some 31) (by kernel_rfl) (o_pure (B false) (ev_pickF h_43532 (by kernel_rfl) (by kernel_rfl)) rfl) ?_
        refine ops_fin' hK_43531 ⟨[(6, B false)], [(0, ⟨33, 0, (cs_Amount x_43522.1)⟩)], 1⟩ (by kernel_rfl) (leB rfl) ?_
        refine w_ret ?_
        obtain rfl := ((Option.some.inj h).symm).symm
        exact ret_leaf (.inl rfl) ⟨[(6, B false)], [], 0⟩ (to_ren [] (leB rfl) (by kernel_rfl) (by kernel_rfl) (renE_of (by kernel_rfl) (by kernel_rfl)) trivial) [B false] (by kernel_rfl) (by kernel_rfl) (leB rfl) (by kernel_rfl) trivial
    · refine w_skip ?_
      refine hK_43528 _ ⟨[(0, sl 5 cs_Unit a1), (2, I a3), (4, .ip (cs_Amount a2)), (7, B x_43509), (8, .ptr 0 0)], [(0, ⟨33, 0, (cs_Amount x_43522.1)⟩)], 1⟩ (to_trim (by kernel_rfl) (leB rfl)) ?_
      refine w_seq (fun K hK_43535 => w_reg0 ?_)
      refine dd_run 0 4 rfl (by kernel_rfl) ?_
      obtain ⟨x_43536, h_43537, h⟩ := bind_some' h
      refine dd_one 4 (.call ⟨.value (.func 17), #[(.tmp 33), (.tmp 34), (.tmp 36)], #[22, 33, 3]⟩) (some 37) (by kernel_rfl) (o_callP (g_quantity_Convert_ok h_43537) (by kernel_rfl) rfl) ?_
      refine ops_fin' hK_43535 ⟨[(2, I a3), (4, .ip (cs_Amount a2)), (7, B x_43509), (8, .ptr 0 0), (10, .ptr 1 0), (11, I x_43536.2)], [(1, ⟨33, 0, (cs_Amount x_43536.1)⟩), (0, ⟨33, 0, (cs_Amount x_43522.1)⟩)], 2⟩ (by kernel_rfl) (leB rfl) ?_
      refine w_seq (fun K hK_43544 => w_reg0 ?_)
      refine dd_run 0 2 rfl (by kernel_rfl) ?_
      refine ite_both h (fun h_43545 h => ?_) (fun h_43545 h => ?_)
      · refine dd_runG 2 6 1 true rfl (b := x_43509) (by kernel_rfl) h_43545 (by kernel_rfl) ?_
        refine dd_one 6 (.pick (.tmp 41) (.tmp 45) (.const (.bool false))) (some 46) (by kernel_rfl) (o_pure (B (x_43522.1.Unit == a3)) (ev_pickT h_43545 (by kernel_rfl) (by kernel_rfl)) rfl) ?_
        refine dd_run 7 8 rfl (by kernel_rfl) ?_
        refine ite_both h (fun h_43546 h => ?_) (fun h_43546 h => ?_)
        · refine dd_runG 8 10 7 true rfl (b := (x_43522.1.Unit == a3)) (by kernel_rfl) h_43546 (by kernel_rfl) ?_
          obtain ⟨x_43547, h_43548, h⟩ := bind_some' h
          refine dd_oneG 10 (.call ⟨.value (.func 24), #[(.tmp 49)], #[31]⟩) (some 50) 7 true (b := (x_43522.1.Unit == a3)) (by kernel_rfl) (by kernel_rfl) h_43546 (o_callP (g_ratio_Valid_ok h_43548) (by kernel_rfl) rfl) ?_
          refine dd_one 11 (.pick (.tmp 47) (.tmp 50) (.const (.bool false))) (some 51) (by kernel_rfl) (o_pure (B x_43547) (ev_pickT h_43546 (by kernel_rfl) (by kernel_rfl)) rfl) ?_
          refine dd_run 12 13 rfl (by kernel_rfl) ?_
          refine ite_both h (fun h_43549 h => ?_) (fun h_43549 h => ?_)
          · refine dd_runG 13 15 12 true rfl (b := x_43547) (by kernel_rfl) h_43549 (by kernel_rfl) ?_
            refine dd_one 15 (.pick (.tmp 52) (.tmp 54) (.const (.bool false))) (some 55) (by kernel_rfl) (o_pure (B (x_43536.2 == 0)) (ev_pickT h_43549 (by kernel_rfl) (by kernel_rfl)) rfl) ?_
            refine dd_run 16 17 rfl (by kernel_rfl) ?_
            refine ite_both h (fun h_43550 h => ?_) (fun h_43550 h => ?_)
            · refine dd_runG 17 19 16 true rfl (b := (x_43536.2 == 0)) (by kernel_rfl) h_43550 (by kernel_rfl) ?_
              refine dd_oneG 19 (.binOp .eql 33 (.tmp 57) (.tmp 58) 33) (some 59) 16 true (b := (x_43536.2 == 0)) (by kernel_rfl) (by kernel_rfl) h_43550 (o_cmp (x := .agg (cs_Amount x_43536.1)) (y := .agg (cs_Amount a2)) (decide (x_43536.1 = a2)) (by kernel_rfl) (by kernel_rfl) (by kernel_rfl) (eql_Amount x_43536.1 a2) rfl) ?_
              refine dd_one 20 (.pick (.tmp 56) (.tmp 59) (.const (.bool false))) (some 60) (by kernel_rfl) (o_pure (B (decide (x_43536.1 = a2))) (ev_pickT h_43550 (by kernel_rfl) (by kernel_rfl)) rfl) ?_
              refine ops_fin' hK_43544 ⟨[(6, B (decide (x_43536.1 = a2)))], [(1, ⟨33, 0, (cs_Amount x_43536.1)⟩), (0, ⟨33, 0, (cs_Amount x_43522.1)⟩)], 2⟩ (by kernel_rfl) (leB rfl) ?_
              refine w_ret ?_
              obtain rfl := ((Option.some.inj h).symm).symm
              exact ret_leaf (.inl rfl) ⟨[(6, B (decide (x_43536.1 = a2)))], [], 0⟩ (to_ren [] (leB rfl) (by kernel_rfl) (by kernel_rfl) (renE_of (by kernel_rfl) (by kernel_rfl)) trivial) [B (decide (x_43536.1 = a2))] (by kernel_rfl) (by kernel_rfl) (leB rfl) (by kernel_rfl) trivial
            · refine dd_skip 17 20 16 true rfl (b := (x_43536.2 == 0)) (by kernel_rfl) h_43550 (by kernel_rfl) ?_
              refine dd_one 20 (.pick (.tmp 56) (.tmp 59) (.const (.bool false))) (some 60) (by kernel_rfl) (o_pure (B false) (ev_pickF h_43550 (by kernel_rfl) (by kernel_rfl)) rfl) ?_
              refine ops_fin' hK_43544 ⟨[(6, B false)], [(1, ⟨33, 0, (cs_Amount x_43536.1)⟩), (0, ⟨33, 0, (cs_Amount x_43522.1)⟩)], 2⟩ (by kernel_rfl) (leB rfl) ?_
              refine w_ret ?_
              obtain rfl := ((Option.some.inj h).symm).symm
              exact ret_leaf (.inl rfl) ⟨[(6, B false)], [], 0⟩ (to_ren [] (leB rfl) (by kernel_rfl) (by kernel_rfl) (renE_of (by kernel_rfl) (by kernel_rfl)) trivial) [B false] (by kernel_rfl) (by kernel_rfl) (leB rfl) (by kernel_rfl) trivial
          · refine dd_skip 13 15 12 true rfl (b := x_43547) (by kernel_rfl) h_43549 (by kernel_rfl) ?_
            refine dd_one 15 (.pick (.tmp 52) (.tmp 54) (.const (.bool false))) (some 55) (by kernel_rfl) (o_pure (B false) (ev_pickF h_43549 (by kernel_rfl) (by kernel_rfl)) rfl) ?_
            refine dd_run 16 17 rfl (by kernel_rfl) ?_
            refine dd_skip 17 20 16 true rfl (b := false) (by kernel_rfl) rfl (by kernel_rfl) ?_
            refine ops_fin' hK_43544 ⟨[(6, B false)], [(1, ⟨33, 0, (cs_Amount x_43536.1)⟩), (0, ⟨33, 0, (cs_Amount x_43522.1)⟩)], 2⟩ (by kernel_rfl) (leB rfl) ?_
            refine w_ret ?_
            obtain rfl := ((Option.some.inj h).symm).symm
            exact ret_leaf (.inl rfl) ⟨[(6, B false)], [], 0⟩ (to_ren [] (leB rfl) (by kernel_rfl) (by kernel_rfl) (renE_of (by kernel_rfl) (by kernel_rfl)) trivial) [B false] (by kernel_rfl) (by kernel_rfl) (leB rfl) (by kernel_rfl) trivial
        · refine dd_skip 8 11 7 true rfl (b := (x_43522.1.Unit == a3)) (by kernel_rfl) h_43546 (by kernel_rfl) ?_
          refine dd_one 11 (.pick (.tmp 47) (.tmp 50) (.const (.bool false))) (some 51) (by kernel_rfl) (o_pure (B false) (ev_pickF h_43546 (by kernel_rfl) (by kernel_rfl)) rfl) ?_
          refine dd_run 12 13 rfl (by kernel_rfl) ?_
          refine dd_skip 13 15 12 true rfl (b := false) (by kernel_rfl) rfl (by kernel_rfl) ?_
          refine dd_run 15 17 rfl (by kernel_rfl) ?_
          refine dd_skip 17 20 16 true rfl (b := false) (by kernel_rfl) rfl (by kernel_rfl) ?_
          refine ops_fin' hK_43544 ⟨[(6, B false)], [(1, ⟨33, 0, (cs_Amount x_43536.1)⟩), (0, ⟨33, 0, (cs_Amount x_43522.1)⟩)], 2⟩ (by kernel_rfl) (leB rfl) ?_
          refine w_ret ?_
          obtain rfl := ((Option.some.inj h).symm).symm
          exact ret_leaf (.inl rfl) ⟨[(6, B false)], [], 0⟩ (to_ren [] (leB rfl) (by kernel_rfl) (by kernel_rfl) (renE_of (by kernel_rfl) (by kernel_rfl)) trivial) [B false] (by kernel_rfl) (by kernel_rfl) (leB rfl) (by kernel_rfl) trivial
      · refine dd_skip 2 6 1 true rfl (b := x_43509) (by kernel_rfl) h_43545 (by kernel_rfl) ?_
        refine dd_one 6 (.pick (.tmp 41) (.tmp 45) (.const (.bool false))) (some 46) (by kernel_rfl) (o_pure (B false) (ev_pickF h_43545 (by kernel_rfl) (by kernel_rfl)) rfl) ?_
        refine dd_run 7 8 rfl (by kernel_rfl) ?_
        refine dd_skip 8 11 7 true rfl (b := false) (by kernel_rfl) rfl (by kernel_rfl) ?_
        refine dd_run 11 13 rfl (by kernel_rfl) ?_
        refine dd_skip 13 15 12 true rfl (b := false) (by kernel_rfl) rfl (by kernel_rfl) ?_
        refine dd_run 15 17 rfl (by kernel_rfl) ?_
        refine dd_skip 17 20 16 true rfl (b := false) (by kernel_rfl) rfl (by kernel_rfl) ?_
        refine ops_fin' hK_43544 ⟨[(6, B false)], [(1, ⟨33, 0, (cs_Amount x_43536.1)⟩), (0, ⟨33, 0, (cs_Amount x_43522.1)⟩)], 2⟩ (by kernel_rfl) (leB rfl) ?_
        refine w_ret ?_
        obtain rfl := ((Option.some.inj h).symm).symm
        exact ret_leaf (.inl rfl) ⟨[(6, B false)], [], 0⟩ (to_ren [] (leB rfl) (by kernel_rfl) (by kernel_rfl) (renE_of (by kernel_rfl) (by kernel_rfl)) trivial) [B false] (by kernel_rfl) (by kernel_rfl) (leB rfl) (by kernel_rfl) trivial
/-- estoppel/estoppellaw04.QuantityWay -/
def g_estoppellaw04_QuantityWay (a1 : List D.Unit) (a2 : D.Amount) (a3 : Int) (a4 : Int) : Option (Bool) :=
  (g_estoppellaw04_head).bind fun x_43591 =>
  (g_estoppellaw04_small a1 []).bind fun x_43596 =>
  if (!x_43596) = true then
  some x_43591
  else
  (g_quantity_Convert a1 a2 a3).bind fun x_43604 =>
  (g_quantity_Convert a1 x_43604.1 a4).bind fun x_43609 =>
  (g_quantity_Convert a1 a2 a4).bind fun x_43614 =>
  if x_43591 = true then
  if (x_43604.2 != 0) = true then
  some true
  else
  if (x_43609.2 != 0) = true then
  some true
  else
  if (x_43614.2 == 0) = true then
  some (decide (x_43609.1 = x_43614.1))
  else
  some false
  else
  some false
set_option maxHeartbeats 4000000 in
theorem g_estoppellaw04_QuantityWay_ok {a1 : List D.Unit} {a2 : D.Amount} {a3 : Int} {a4 : Int} {res : Bool} (h : g_estoppellaw04_QuantityWay a1 a2 a3 a4 = some res) : SpecK Tryd.prog [] 6 [sl 5 cs_Unit a1, .agg (cs_Amount a2), I a3, I a4] [] 0 (B res) [] 0 := by
  refine ⟨spec_of_wp Tryd.func6 (by kernel_rfl) rfl Tryd.ntmps6 (by rw [Tryd.results6]) (leB rfl) ?_, by kernel_rfl, trivial, by kernel_rfl, trivial, by kernel_rfl⟩
  unfold g_estoppellaw04_QuantityWay at h
  refine w_reg ⟨[(0, sl 5 cs_Unit a1), (2, I a3), (3, I a4), (5, .ip (cs_Amount a2))], [], 0⟩ (by kernel_rfl) (leB rfl) ?_
  refine w_seq (fun K hK_43590 => w_reg0 ?_)
  obtain ⟨x_43591, h_43592, h⟩ := bind_some' h
  refine dd_one 0 (.call ⟨.value (.func 11), #[], #[]⟩) (some 16) (by kernel_rfl) (o_callP (g_estoppellaw04_head_ok h_43592) (by kernel_rfl) rfl) ?_
  refine ops_fin' hK_43590 ⟨[(0, sl 5 cs_Unit a1), (2, I a3), (3, I a4), (5, .ip (cs_Amount a2)), (9, B x_43591)], [], 0⟩ (by kernel_rfl) (leB rfl) ?_
  refine w_assoc ?_
  refine w_seq (fun K hK_43595 => w_reg0 ?_)
  refine dd_run 0 1 rfl (by kernel_rfl) ?_
  obtain ⟨x_43596, h_43597, h⟩ := bind_some' h
  refine dd_one 1 (.call ⟨.value (.func 12), #[(.tmp 17), (.const (.slice none 0 0))], #[22, 23]⟩) (some 18) (by kernel_rfl) (o_callPS (g_estoppellaw04_small_ok h_43597) [sl 5 cs_Unit a1, Nl] (by kernel_rfl) (.cons (Sub.refl _) (.cons (Sub.nil 3) (.nil))) rfl) ?_
  refine ops_fin' hK_43595 ⟨[(0, sl 5 cs_Unit a1), (2, I a3), (3, I a4), (5, .ip (cs_Amount a2)), (9, B x_43591), (19, B (!x_43596))], [], 0⟩ (by kernel_rfl) (leB rfl) ?_
  refine w_seq (fun K hK_43599 => ?_)
  refine w_ite h (by kernel_rfl) (fun h_43600 h => ?_) (fun h_43600 h => ?_)
  · refine w_reg ⟨[(8, B x_43591)], [], 0⟩ (by kernel_rfl) (leB rfl) ?_
    refine w_ret ?_
    obtain rfl := ((Option.some.inj h).symm).symm
    exact ret_leaf (.inl rfl) ⟨[(8, B x_43591)], [], 0⟩ (to_ren [] (leB rfl) (by kernel_rfl) (by kernel_rfl) (renE_of (by kernel_rfl) (by kernel_rfl)) trivial) [B x_43591] (by kernel_rfl) (by kernel_rfl) (leB rfl) (by kernel_rfl) trivial
  · refine w_skip ?_
    refine hK_43599 _ ⟨[(0, sl 5 cs_Unit a1), (2, I a3), (3, I a4), (5, .ip (cs_Amount a2)), (9, B x_43591)], [], 0⟩ (to_trim (by kernel_rfl) (leB rfl)) ?_
    refine w_seq (fun K hK_43603 => w_reg0 ?_)
    refine dd_run 0 3 rfl (by kernel_rfl) ?_
    obtain ⟨x_43604, h_43605, h⟩ := bind_some' h
    refine dd_one 3 (.call ⟨.value (.func 17), #[(.tmp 22), (.tmp 23), (.tmp 24)], #[22, 33, 3]⟩) (some 25) (by kernel_rfl) (o_callP (g_quantity_Convert_ok h_43605) (by kernel_rfl) rfl) ?_
    refine ops_fin' hK_43603 ⟨[(0, sl 5 cs_Unit a1), (3, I a4), (5, .ip (cs_Amount a2)), (9, B x_43591), (10, .ptr 0 0), (11, I x_43604.2)], [(0, ⟨33, 0, (cs_Amount x_43604.1)⟩)], 1⟩ (by kernel_rfl) (leB rfl) ?_
    refine w_seq (fun K hK_43608 => w_reg0 ?_)
    refine dd_run 0 3 rfl (by kernel_rfl) ?_
    obtain ⟨x_43609, h_43610, h⟩ := bind_some' h
    refine dd_one 3 (.call ⟨.value (.func 17), #[(.tmp 29), (.tmp 30), (.tmp 31)], #[22, 33, 3]⟩) (some 32) (by kernel_rfl) (o_callP (g_quantity_Convert_ok h_43610) (by kernel_rfl) rfl) ?_
    refine ops_fin' hK_43608 ⟨[(0, sl 5 cs_Unit a1), (3, I a4), (5, .ip (cs_Amount a2)), (9, B x_43591), (11, I x_43604.2), (12, .ptr 1 0), (13, I x_43609.2)], [(1, ⟨33, 0, (cs_Amount x_43609.1)⟩), (0, ⟨33, 0, (cs_Amount x_43604.1)⟩)], 2⟩ (by kernel_rfl) (leB rfl) ?_
    refine w_seq (fun K hK_43613 => w_reg0 ?_)
    refine dd_run 0 3 rfl (by kernel_rfl) ?_
    obtain ⟨x_43614, h_43615, h⟩ := bind_some' h
    refine dd_one 3 (.call ⟨.value (.func 17), #[(.tmp 36), (.tmp 37), (.tmp 38)], #[22, 33, 3]⟩) (some 39) (by kernel_rfl) (o_callP (g_quantity_Convert_ok h_43615) (by kernel_rfl) rfl) ?_
    refine ops_fin' hK_43613 ⟨[(9, B x_43591), (11, I x_43604.2), (12, .ptr 1 0), (13, I x_43609.2), (14, .ptr 2 0), (15, I x_43614.2)], [(2, ⟨33, 0, (cs_Amount x_43614.1)⟩), (1, ⟨33, 0, (cs_Amount x_43609.1)⟩), (0, ⟨33, 0, (cs_Amount x_43604.1)⟩)], 3⟩ (by kernel_rfl) (leB rfl) ?_
    refine w_seq (fun K hK_43620 => w_reg0 ?_)
    refine dd_run 0 2 rfl (by kernel_rfl) ?_
    refine ite_both h (fun h_43621 h => ?_) (fun h_43621 h => ?_)
    · refine dd_runG 2 5 1 true rfl (b := x_43591) (by kernel_rfl) h_43621 (by kernel_rfl) ?_
      refine ite_both h (fun h_43622 h => ?_) (fun h_43622 h => ?_)
      · refine dd_skip 5 7 4 false rfl (b := (x_43604.2 != 0)) (by kernel_rfl) h_43622 (by kernel_rfl) ?_
        refine dd_oneG 7 (.pick (.tmp 46) (.const (.bool true)) (.tmp 48)) (some 49) 1 true (b := x_43591) (by kernel_rfl) (by kernel_rfl) h_43621 (o_pure (B true) (ev_pickT h_43622 (by kernel_rfl) (by kernel_rfl)) rfl) ?_
        refine dd_runG 8 9 1 true rfl (b := x_43591) (by kernel_rfl) h_43621 (by kernel_rfl) ?_
        refine dd_skip 9 12 8 false rfl (b := true) (by kernel_rfl) rfl (by kernel_rfl) ?_
        refine dd_skipU 12 15 11 true rfl (by kernel_rfl) (by kernel_rfl) ?_
        refine dd_skip 15 16 8 false rfl (b := true) (by kernel_rfl) rfl (by kernel_rfl) ?_
        refine dd_runG 16 17 1 true rfl (b := x_43591) (by kernel_rfl) h_43621 (by kernel_rfl) ?_
        refine dd_one 17 (.pick (.tmp 43) (.tmp 58) (.const (.bool false))) (some 59) (by kernel_rfl) (o_pure (B true) (ev_pickT h_43621 (by kernel_rfl) (by kernel_rfl)) rfl) ?_
        refine ops_fin' hK_43620 ⟨[(8, B true)], [(2, ⟨33, 0, (cs_Amount x_43614.1)⟩), (1, ⟨33, 0, (cs_Amount x_43609.1)⟩), (0, ⟨33, 0, (cs_Amount x_43604.1)⟩)], 3⟩ (by kernel_rfl) (leB rfl) ?_
        refine w_ret ?_
        obtain rfl := ((Option.some.inj h).symm).symm
        exact ret_leaf (.inl rfl) ⟨[(8, B true)], [], 0⟩ (to_ren [] (leB rfl) (by kernel_rfl) (by kernel_rfl) (renE_of (by kernel_rfl) (by kernel_rfl)) trivial) [B true] (by kernel_rfl) (by kernel_rfl) (leB rfl) (by kernel_rfl) trivial
      · refine dd_runG 5 7 4 false rfl (b := (x_43604.2 != 0)) (by kernel_rfl) h_43622 (by kernel_rfl) ?_
        refine dd_oneG 7 (.pick (.tmp 46) (.const (.bool true)) (.tmp 48)) (some 49) 1 true (b := x_43591) (by kernel_rfl) (by kernel_rfl) h_43621 (o_pure (B (x_43609.2 != 0)) (ev_pickF h_43622 (by kernel_rfl) (by kernel_rfl)) rfl) ?_
        refine dd_runG 8 9 1 true rfl (b := x_43591) (by kernel_rfl) h_43621 (by kernel_rfl) ?_
        refine ite_both h (fun h_43623 h => ?_) (fun h_43623 h => ?_)
        · refine dd_skip 9 12 8 false rfl (b := (x_43609.2 != 0)) (by kernel_rfl) h_43623 (by kernel_rfl) ?_
          refine dd_skipU 12 15 11 true rfl (by kernel_rfl) (by kernel_rfl) ?_
          refine dd_skip 15 16 8 false rfl (b := (x_43609.2 != 0)) (by kernel_rfl) h_43623 (by kernel_rfl) ?_
          refine dd_oneG 16 (.pick (.tmp 50) (.const (.bool true)) (.tmp 57)) (some 58) 1 true (b := x_43591) (by kernel_rfl) (by kernel_rfl) h_43621 (o_pure (B true) (ev_pickT h_43623 (by kernel_rfl) (by kernel_rfl)) rfl) ?_
          refine dd_one 17 (.pick (.tmp 43) (.tmp 58) (.const (.bool false))) (some 59) (by kernel_rfl) (o_pure (B true) (ev_pickT h_43621 (by kernel_rfl) (by kernel_rfl)) rfl) ?_
          refine ops_fin' hK_43620 ⟨[(8, B true)], [(2, ⟨33, 0, (cs_Amount x_43614.1)⟩), (1, ⟨33, 0, (cs_Amount x_43609.1)⟩), (0, ⟨33, 0, (cs_Amount x_43604.1)⟩)], 3⟩ (by kernel_rfl) (leB rfl) ?_
          refine w_ret ?_
          obtain rfl := ((Option.some.inj h).symm).symm
          exact ret_leaf (.inl rfl) ⟨[(8, B true)], [], 0⟩ (to_ren [] (leB rfl) (by kernel_rfl) (by kernel_rfl) (renE_of (by kernel_rfl) (by kernel_rfl)) trivial) [B true] (by kernel_rfl) (by kernel_rfl) (leB rfl) (by kernel_rfl) trivial
        · refine dd_runG 9 12 8 false rfl (b := (x_43609.2 != 0)) (by kernel_rfl) h_43623 (by kernel_rfl) ?_
          refine ite_both h (fun h_43624 h => ?_) (fun h_43624 h => ?_)
          · refine dd_runG 12 14 11 true rfl (b := (x_43614.2 == 0)) (by kernel_rfl) h_43624 (by kernel_rfl) ?_
            refine dd_oneG 14 (.binOp .eql 33 (.tmp 54) (.tmp 55) 33) (some 56) 11 true (b := (x_43614.2 == 0)) (by kernel_rfl) (by kernel_rfl) h_43624 (o_cmp (x := .agg (cs_Amount x_43609.1)) (y := .agg (cs_Amount x_43614.1)) (decide (x_43609.1 = x_43614.1)) (by kernel_rfl) (by kernel_rfl) (by kernel_rfl) (eql_Amount x_43609.1 x_43614.1) rfl) ?_
            refine dd_oneG 15 (.pick (.tmp 53) (.tmp 56) (.const (.bool false))) (some 57) 8 false (b := (x_43609.2 != 0)) (by kernel_rfl) (by kernel_rfl) h_43623 (o_pure (B (decide (x_43609.1 = x_43614.1))) (ev_pickT h_43624 (by kernel_rfl) (by kernel_rfl)) rfl) ?_
            refine dd_oneG 16 (.pick (.tmp 50) (.const (.bool true)) (.tmp 57)) (some 58) 1 true (b := x_43591) (by kernel_rfl) (by kernel_rfl) h_43621 (o_pure (B (decide (x_43609.1 = x_43614.1))) (ev_pickF h_43623 (by kernel_rfl) (by kernel_rfl)) rfl) ?_
            refine dd_one 17 (.pick (.tmp 43) (.tmp 58) (.const (.bool false))) (some 59) (by kernel_rfl) (o_pure (B (decide (x_43609.1 = x_43614.1))) (ev_pickT h_43621 (by kernel_rfl) (by kernel_rfl)) rfl) ?_
            refine ops_fin' hK_43620 ⟨[(8, B (decide (x_43609.1 = x_43614.1)))], [(2, ⟨33, 0, (cs_Amount x_43614.1)⟩), (1, ⟨33, 0, (cs_Amount x_43609.1)⟩), (0, ⟨33, 0, (cs_Amount x_43604.1)⟩)], 3⟩ (by kernel_rfl) (leB rfl) ?_
            refine w_ret ?_
            obtain rfl := ((Option.some.inj h).symm).symm
            exact ret_leaf (.inl rfl) ⟨[(8, B (decide (x_43609.1 = x_43614.1)))], [], 0⟩ (to_ren [] (leB rfl) (by kernel_rfl) (by kernel_rfl) (renE_of (by kernel_rfl) (by kernel_rfl)) trivial) [B (decide (x_43609.1 = x_43614.1))] (by kernel_rfl) (by kernel_rfl) (leB rfl) (by kernel_rfl) trivial
          · refine dd_skip 12 15 11 true rfl (b := (x_43614.2 == 0)) (by kernel_rfl) h_43624 (by kernel_rfl) ?_
            refine dd_oneG 15 (.pick (.tmp 53) (.tmp 56) (.const (.bool false))) (some 57) 8 false (b := (x_43609.2 != 0)) (by kernel_rfl) (by kernel_rfl) h_43623 (o_pure (B false) (ev_pickF h_43624 (by kernel_rfl) (by kernel_rfl)) rfl) ?_
            refine dd_oneG 16 (.pick (.tmp 50) (.const (.bool true)) (.tmp 57)) (some 58) 1 true (b := x_43591) (by kernel_rfl) (by kernel_rfl) h_43621 (o_pure (B false) (ev_pickF h_43623 (by kernel_rfl) (by kernel_rfl)) rfl) ?_
            refine dd_one 17 (.pick (.tmp 43) (.tmp 58) (.const (.bool false))) (some 59) (by kernel_rfl) (o_pure (B false) (ev_pickT h_43621 (by kernel_rfl) (by kernel_rfl)) rfl) ?_
            refine ops_fin' hK_43620 ⟨[(8, B false)], [(2, ⟨33, 0, (cs_Amount x_43614.1)⟩), (1, ⟨33, 0, (cs_Amount x_43609.1)⟩), (0, ⟨33, 0, (cs_Amount x_43604.1)⟩)], 3⟩ (by kernel_rfl) (leB rfl) ?_
            refine w_ret ?_
            obtain rfl := ((Option.some.inj h).symm).symm
            exact ret_leaf (.inl rfl) ⟨[(8, B false)], [], 0⟩ (to_ren [] (leB rfl) (by kernel_rfl) (by kernel_rfl) (renE_of (by kernel_rfl) (by kernel_rfl)) trivial) [B false] (by kernel_rfl) (by kernel_rfl) (leB rfl) (by kernel_rfl) trivial
    · refine dd_skip 2 5 1 true rfl (b := x_43591) (by kernel_rfl) h_43621 (by kernel_rfl) ?_
      refine dd_skipU 5 7 4 false rfl (by kernel_rfl) (by kernel_rfl) ?_
      refine dd_skip 7 9 1 true rfl (b := x_43591) (by kernel_rfl) h_43621 (by kernel_rfl) ?_
      refine dd_skipU 9 12 8 false rfl (by kernel_rfl) (by kernel_rfl) ?_
      refine dd_skipU 12 15 11 true rfl (by kernel_rfl) (by kernel_rfl) ?_
      refine dd_skipU 15 16 8 false rfl (by kernel_rfl) (by kernel_rfl) ?_
      refine dd_skip 16 17 1 true rfl (b := x_43591) (by kernel_rfl) h_43621 (by kernel_rfl) ?_
      refine dd_one 17 (.pick (.tmp 43) (.tmp 58) (.const (.bool false))) (some 59) (by kernel_rfl) (o_pure (B false) (ev_pickF h_43621 (by kernel_rfl) (by kernel_rfl)) rfl) ?_
      refine ops_fin' hK_43620 ⟨[(8, B false)], [(2, ⟨33, 0, (cs_Amount x_43614.1)⟩), (1, ⟨33, 0, (cs_Amount x_43609.1)⟩), (0, ⟨33, 0, (cs_Amount x_43604.1)⟩)], 3⟩ (by kernel_rfl) (leB rfl) ?_
      refine w_ret ?_
      obtain rfl := ((Option.some.inj h).symm).symm
      exact ret_leaf (.inl rfl) ⟨[(8, B false)], [], 0⟩ (to_ren [] (leB rfl) (by kernel_rfl) (by kernel_rfl) (renE_of (by kernel_rfl) (by kernel_rfl)) trivial) [B false] (by kernel_rfl) (by kernel_rfl) (leB rfl) (by kernel_rfl) trivial
/-- estoppel/estoppellaw04.QuantityLinear -/
def g_estoppellaw04_QuantityLinear (a1 : List D.Unit) (a2 : D.Ratio) (a3 : D.Ratio) (a4 : Int) (a5 : Int) : Option (Bool) :=
  (g_estoppellaw04_head).bind fun x_43683 =>
  (g_estoppellaw04_small a1 []).bind fun x_43688 =>
  if (!x_43688) = true then
  some x_43683
  else
  (g_ratio_Add a2 a3).bind fun x_43696 =>
  (g_quantity_Convert a1 (D.Amount.mk a4 a2) a5).bind fun x_43701 =>
  (g_quantity_Convert a1 (D.Amount.mk a4 a3) a5).bind fun x_43706 =>
  (g_quantity_Convert a1 (D.Amount.mk a4 x_43696.1) a5).bind fun x_43711 =>
  bindF (ρ := Bool) (
  if (x_43696.2 != 0) = true then
  some (.inl true)
  else
  if (x_43701.2 != 0) = true then
  some (.inl true)
  else
  if (x_43706.2 != 0) = true then
  some (.inl true)
  else
  some (.inl (x_43711.2 != 0))) (fun (e_43716 : Bool) =>
  if e_43716 = true then
  some x_43683
  else
  (g_ratio_Add x_43701.1.Value x_43706.1.Value).bind fun x_43728 =>
  if x_43683 = true then
  if (x_43728.2 == 0) = true then
  some (decide (x_43728.1 = x_43711.1.Value))
  else
  some false
  else
  some false)
set_option maxHeartbeats 4000000 in
theorem g_estoppellaw04_QuantityLinear_ok {a1 : List D.Unit} {a2 : D.Ratio} {a3 : D.Ratio} {a4 : Int} {a5 : Int} {res : Bool} (h : g_estoppellaw04_QuantityLinear a1 a2 a3 a4 a5 = some res) : SpecK Tryd.prog [] 7 [sl 5 cs_Unit a1, .agg (cs_Ratio a2), .agg (cs_Ratio a3), I a4, I a5] [] 0 (B res) [] 0 := by
  refine ⟨spec_of_wp Tryd.func7 (by kernel_rfl) rfl Tryd.ntmps7 (by rw [Tryd.results7]) (leB rfl) ?_, by kernel_rfl, trivial, by kernel_rfl, trivial, by kernel_rfl⟩
  unfold g_estoppellaw04_QuantityLinear at h
  refine w_reg ⟨[(0, sl 5 cs_Unit a1), (3, I a4), (4, I a5), (6, .ip (cs_Ratio a2)), (7, .ip (cs_Ratio a3))], [], 0⟩ (by kernel_rfl) (leB rfl) ?_
  refine w_seq (fun K hK_43682 => w_reg0 ?_)
  obtain ⟨x_43683, h_43684, h⟩ := bind_some' h
  refine dd_one 0 (.call ⟨.value (.func 11), #[], #[]⟩) (some 22) (by kernel_rfl) (o_callP (g_estoppellaw04_head_ok h_43684) (by kernel_rfl) rfl) ?_
  refine ops_fin' hK_43682 ⟨[(0, sl 5 cs_Unit a1), (3, I a4), (4, I a5), (6, .ip (cs_Ratio a2)), (7, .ip (cs_Ratio a3)), (11, B x_43683)], [], 0⟩ (by kernel_rfl) (leB rfl) ?_
  refine w_assoc ?_
  refine w_seq (fun K hK_43687 => w_reg0 ?_)
  refine dd_run 0 1 rfl (by kernel_rfl) ?_
  obtain ⟨x_43688, h_43689, h⟩ := bind_some' h
  refine dd_one 1 (.call ⟨.value (.func 12), #[(.tmp 23), (.const (.slice none 0 0))], #[22, 23]⟩) (some 24) (by kernel_rfl) (o_callPS (g_estoppellaw04_small_ok h_43689) [sl 5 cs_Unit a1, Nl] (by kernel_rfl) (.cons (Sub.refl _) (.cons (Sub.nil 3) (.nil))) rfl) ?_
  refine ops_fin' hK_43687 ⟨[(0, sl 5 cs_Unit a1), (3, I a4), (4, I a5), (6, .ip (cs_Ratio a2)), (7, .ip (cs_Ratio a3)), (11, B x_43683), (25, B (!x_43688))], [], 0⟩ (by kernel_rfl) (leB rfl) ?_
  refine w_seq (fun K hK_43691 => ?_)
  refine w_ite h (by kernel_rfl) (fun h_43692 h => ?_) (fun h_43692 h => ?_)
  · refine w_reg ⟨[(10, B x_43683)], [], 0⟩ (by kernel_rfl) (leB rfl) ?_
    refine w_ret ?_
    obtain rfl := ((Option.some.inj h).symm).symm
    exact ret_leaf (.inl rfl) ⟨[(10, B x_43683)], [], 0⟩ (to_ren [] (leB rfl) (by kernel_rfl) (by kernel_rfl) (renE_of (by kernel_rfl) (by kernel_rfl)) trivial) [B x_43683] (by kernel_rfl) (by kernel_rfl) (leB rfl) (by kernel_rfl) trivial
  · refine w_skip ?_
    refine hK_43691 _ ⟨[(0, sl 5 cs_Unit a1), (3, I a4), (4, I a5), (6, .ip (cs_Ratio a2)), (7, .ip (cs_Ratio a3)), (11, B x_43683)], [], 0⟩ (to_trim (by kernel_rfl) (leB rfl)) ?_
    refine w_seq (fun K hK_43695 => w_reg0 ?_)
    refine dd_run 0 2 rfl (by kernel_rfl) ?_
    obtain ⟨x_43696, h_43697, h⟩ := bind_some' h
    refine dd_one 2 (.call ⟨.value (.func 25), #[(.tmp 28), (.tmp 29)], #[31, 31]⟩) (some 30) (by kernel_rfl) (o_callP (g_ratio_Add_ok h_43697) (by kernel_rfl) rfl) ?_
    refine ops_fin' hK_43695 ⟨[(0, sl 5 cs_Unit a1), (3, I a4), (4, I a5), (6, .ip (cs_Ratio a2)), (7, .ip (cs_Ratio a3)), (11, B x_43683), (12, .ptr 0 0), (13, I x_43696.2)], [(0, ⟨31, 0, (cs_Ratio x_43696.1)⟩)], 1⟩ (by kernel_rfl) (leB rfl) ?_
    refine w_seq (fun K hK_43700 => w_reg0 ?_)
    refine dd_run 0 5 rfl (by kernel_rfl) ?_
    obtain ⟨x_43701, h_43702, h⟩ := bind_some' h
    refine dd_one 5 (.call ⟨.value (.func 17), #[(.tmp 34), (.tmp 37), (.tmp 38)], #[22, 33, 3]⟩) (some 39) (by kernel_rfl) (o_callP (g_quantity_Convert_ok h_43702) (by kernel_rfl) rfl) ?_
    refine ops_fin' hK_43700 ⟨[(0, sl 5 cs_Unit a1), (3, I a4), (4, I a5), (7, .ip (cs_Ratio a3)), (11, B x_43683), (12, .ptr 0 0), (13, I x_43696.2), (14, .ptr 1 0), (15, I x_43701.2)], [(1, ⟨33, 0, (cs_Amount x_43701.1)⟩), (0, ⟨31, 0, (cs_Ratio x_43696.1)⟩)], 2⟩ (by kernel_rfl) (leB rfl) ?_
    refine w_seq (fun K hK_43705 => w_reg0 ?_)
    refine dd_run 0 5 rfl (by kernel_rfl) ?_
    obtain ⟨x_43706, h_43707, h⟩ := bind_some' h
    refine dd_one 5 (.call ⟨.value (.func 17), #[(.tmp 43), (.tmp 46), (.tmp 47)], #[22, 33, 3]⟩) (some 48) (by kernel_rfl) (o_callP (g_quantity_Convert_ok h_43707) (by kernel_rfl) rfl) ?_
    refine ops_fin' hK_43705 ⟨[(0, sl 5 cs_Unit a1), (3, I a4), (4, I a5), (11, B x_43683), (12, .ptr 0 0), (13, I x_43696.2), (14, .ptr 1 0), (15, I x_43701.2), (16, .ptr 2 0), (17, I x_43706.2)], [(2, ⟨33, 0, (cs_Amount x_43706.1)⟩), (1, ⟨33, 0, (cs_Amount x_43701.1)⟩), (0, ⟨31, 0, (cs_Ratio x_43696.1)⟩)], 3⟩ (by kernel_rfl) (leB rfl) ?_
    refine w_seq (fun K hK_43710 => w_reg0 ?_)
    refine dd_run 0 5 rfl (by kernel_rfl) ?_
    obtain ⟨x_43711, h_43712, h⟩ := bind_some' h
    refine dd_one 5 (.call ⟨.value (.func 17), #[(.tmp 52), (.tmp 55), (.tmp 56)], #[22, 33, 3]⟩) (some 57) (by kernel_rfl) (o_callP (g_quantity_Convert_ok h_43712) (by kernel_rfl) rfl) ?_
    refine ops_fin' hK_43710 ⟨[(11, B x_43683), (13, I x_43696.2), (14, .ptr 1 0), (15, I x_43701.2), (16, .ptr 2 0), (17, I x_43706.2), (18, .ptr 3 0), (19, I x_43711.2)], [(3, ⟨33, 0, (cs_Amount x_43711.1)⟩), (2, ⟨33, 0, (cs_Amount x_43706.1)⟩), (1, ⟨33, 0, (cs_Amount x_43701.1)⟩), (0, ⟨31, 0, (cs_Ratio x_43696.1)⟩)], 4⟩ (by kernel_rfl) (leB rfl) ?_
    refine w_assoc ?_
    refine w_cut h (fun (e_43716 : Bool) => ⟨[(11, B x_43683), (14, .ptr 0 0), (16, .ptr 1 0), (18, .ptr 2 0), (73, B e_43716)], [(0, ⟨33, 0, (cs_Amount x_43701.1)⟩), (1, ⟨33, 0, (cs_Amount x_43706.1)⟩), (2, ⟨33, 0, (cs_Amount x_43711.1)⟩)], 3⟩) (fun o h h_43717 K hK_43718 => ?_) (fun e_43716 h => ?_)
    · refine w_reg0 ?_
      refine dd_run 0 3 rfl (by kernel_rfl) ?_
      refine ite_both h (fun h_43719 h => ?_) (fun h_43719 h => ?_)
      · refine dd_skip 3 5 2 false rfl (b := (x_43696.2 != 0)) (by kernel_rfl) h_43719 (by kernel_rfl) ?_
        refine dd_one 5 (.pick (.tmp 62) (.const (.bool true)) (.tmp 64)) (some 65) (by kernel_rfl) (o_pure (B true) (ev_pickT h_43719 (by kernel_rfl) (by kernel_rfl)) rfl) ?_
        refine dd_run 6 7 rfl (by kernel_rfl) ?_
        refine dd_skip 7 9 6 false rfl (b := true) (by kernel_rfl) rfl (by kernel_rfl) ?_
        refine dd_run 9 11 rfl (by kernel_rfl) ?_
        refine dd_skip 11 13 10 false rfl (b := true) (by kernel_rfl) rfl (by kernel_rfl) ?_
        refine dd_run 13 14 rfl (by kernel_rfl) ?_
        refine dd_nil 14 rfl ?_
        exact hK_43718 _ _ (Option.some.inj h).symm (to_ren [(0, 1), (1, 2), (2, 3)] (leB rfl) (by kernel_rfl) (by kernel_rfl) (renE_of (by kernel_rfl) (by kernel_rfl)) ⟨reRn (by kernel_rfl) (leB rfl) (by kernel_rfl), ⟨reRn (by kernel_rfl) (leB rfl) (by kernel_rfl), ⟨reRn (by kernel_rfl) (leB rfl) (by kernel_rfl), trivial⟩⟩⟩)
      · refine dd_runG 3 5 2 false rfl (b := (x_43696.2 != 0)) (by kernel_rfl) h_43719 (by kernel_rfl) ?_
        refine dd_one 5 (.pick (.tmp 62) (.const (.bool true)) (.tmp 64)) (some 65) (by kernel_rfl) (o_pure (B (x_43701.2 != 0)) (ev_pickF h_43719 (by kernel_rfl) (by kernel_rfl)) rfl) ?_
        refine dd_run 6 7 rfl (by kernel_rfl) ?_
        refine ite_both h (fun h_43720 h => ?_) (fun h_43720 h => ?_)
        · refine dd_skip 7 9 6 false rfl (b := (x_43701.2 != 0)) (by kernel_rfl) h_43720 (by kernel_rfl) ?_
          refine dd_one 9 (.pick (.tmp 66) (.const (.bool true)) (.tmp 68)) (some 69) (by kernel_rfl) (o_pure (B true) (ev_pickT h_43720 (by kernel_rfl) (by kernel_rfl)) rfl) ?_
          refine dd_run 10 11 rfl (by kernel_rfl) ?_
          refine dd_skip 11 13 10 false rfl (b := true) (by kernel_rfl) rfl (by kernel_rfl) ?_
          refine dd_run 13 14 rfl (by kernel_rfl) ?_
          refine dd_nil 14 rfl ?_
          exact hK_43718 _ _ (Option.some.inj h).symm (to_ren [(0, 1), (1, 2), (2, 3)] (leB rfl) (by kernel_rfl) (by kernel_rfl) (renE_of (by kernel_rfl) (by kernel_rfl)) ⟨reRn (by kernel_rfl) (leB rfl) (by kernel_rfl), ⟨reRn (by kernel_rfl) (leB rfl) (by kernel_rfl), ⟨reRn (by kernel_rfl) (leB rfl) (by kernel_rfl), trivial⟩⟩⟩)
        · refine dd_runG 7 9 6 false rfl (b := (x_43701.2 != 0)) (by kernel_rfl) h_43720 (by kernel_rfl) ?_
          refine dd_one 9 (.pick (.tmp 66) (.const (.bool true)) (.tmp 68)) (some 69) (by kernel_rfl) (o_pure (B (x_43706.2 != 0)) (ev_pickF h_43720 (by kernel_rfl) (by kernel_rfl)) rfl) ?_
          refine dd_run 10 11 rfl (by kernel_rfl) ?_
          refine ite_both h (fun h_43721 h => ?_) (fun h_43721 h => ?_)
          · refine dd_skip 11 13 10 false rfl (b := (x_43706.2 != 0)) (by kernel_rfl) h_43721 (by kernel_rfl) ?_
            refine dd_one 13 (.pick (.tmp 70) (.const (.bool true)) (.tmp 72)) (some 73) (by kernel_rfl) (o_pure (B true) (ev_pickT h_43721 (by kernel_rfl) (by kernel_rfl)) rfl) ?_
            refine dd_nil 14 rfl ?_
            exact hK_43718 _ _ (Option.some.inj h).symm (to_ren [(0, 1), (1, 2), (2, 3)] (leB rfl) (by kernel_rfl) (by kernel_rfl) (renE_of (by kernel_rfl) (by kernel_rfl)) ⟨reRn (by kernel_rfl) (leB rfl) (by kernel_rfl), ⟨reRn (by kernel_rfl) (leB rfl) (by kernel_rfl), ⟨reRn (by kernel_rfl) (leB rfl) (by kernel_rfl), trivial⟩⟩⟩)
          · refine dd_runG 11 13 10 false rfl (b := (x_43706.2 != 0)) (by kernel_rfl) h_43721 (by kernel_rfl) ?_
            refine dd_one 13 (.pick (.tmp 70) (.const (.bool true)) (.tmp 72)) (some 73) (by kernel_rfl) (o_pure (B (x_43711.2 != 0)) (ev_pickF h_43721 (by kernel_rfl) (by kernel_rfl)) rfl) ?_
            refine dd_nil 14 rfl ?_
            exact hK_43718 _ _ (Option.some.inj h).symm (to_ren [(0, 1), (1, 2), (2, 3)] (leB rfl) (by kernel_rfl) (by kernel_rfl) (renE_of (by kernel_rfl) (by kernel_rfl)) ⟨reRn (by kernel_rfl) (leB rfl) (by kernel_rfl), ⟨reRn (by kernel_rfl) (leB rfl) (by kernel_rfl), ⟨reRn (by kernel_rfl) (leB rfl) (by kernel_rfl), trivial⟩⟩⟩)
    · refine w_seq (fun K hK_43723 => ?_)
      refine w_ite h (by kernel_rfl) (fun h_43724 h => ?_) (fun h_43724 h => ?_)
      · refine w_reg ⟨[(10, B x_43683)], [(0, ⟨33, 0, (cs_Amount x_43701.1)⟩), (1, ⟨33, 0, (cs_Amount x_43706.1)⟩), (2, ⟨33, 0, (cs_Amount x_43711.1)⟩)], 3⟩ (by kernel_rfl) (leB rfl) ?_
        refine w_ret ?_
        obtain rfl := ((Option.some.inj h).symm).symm
        exact ret_leaf (.inl rfl) ⟨[(10, B x_43683)], [], 0⟩ (to_ren [] (leB rfl) (by kernel_rfl) (by kernel_rfl) (renE_of (by kernel_rfl) (by kernel_rfl)) trivial) [B x_43683] (by kernel_rfl) (by kernel_rfl) (leB rfl) (by kernel_rfl) trivial
      · refine w_skip ?_
        refine hK_43723 _ ⟨[(11, B x_43683), (14, .ptr 0 0), (16, .ptr 1 0), (18, .ptr 2 0)], [(0, ⟨33, 0, (cs_Amount x_43701.1)⟩), (1, ⟨33, 0, (cs_Amount x_43706.1)⟩), (2, ⟨33, 0, (cs_Amount x_43711.1)⟩)], 3⟩ (to_trim (by kernel_rfl) (leB rfl)) ?_
        refine w_seq (fun K hK_43727 => w_reg0 ?_)
        refine dd_run 0 4 rfl (by kernel_rfl) ?_
        obtain ⟨x_43728, h_43729, h⟩ := bind_some' h
        refine dd_one 4 (.call ⟨.value (.func 25), #[(.tmp 77), (.tmp 79)], #[31, 31]⟩) (some 80) (by kernel_rfl) (o_callP (g_ratio_Add_ok h_43729) (by kernel_rfl) rfl) ?_
        refine ops_fin' hK_43727 ⟨[(11, B x_43683), (18, .ptr 2 0), (20, .ptr 3 0), (21, I x_43728.2)], [(3, ⟨31, 0, (cs_Ratio x_43728.1)⟩), (0, ⟨33, 0, (cs_Amount x_43701.1)⟩), (1, ⟨33, 0, (cs_Amount x_43706.1)⟩), (2, ⟨33, 0, (cs_Amount x_43711.1)⟩)], 4⟩ (by kernel_rfl) (leB rfl) ?_
        refine w_seq (fun K hK_43732 => w_reg0 ?_)
        refine dd_run 0 2 rfl (by kernel_rfl) ?_
        refine ite_both h (fun h_43733 h => ?_) (fun h_43733 h => ?_)
        · refine dd_runG 2 4 1 true rfl (b := x_43683) (by kernel_rfl) h_43733 (by kernel_rfl) ?_
          refine dd_one 4 (.pick (.tmp 84) (.tmp 86) (.const (.bool false))) (some 87) (by kernel_rfl) (o_pure (B (x_43728.2 == 0)) (ev_pickT h_43733 (by kernel_rfl) (by kernel_rfl)) rfl) ?_
          refine dd_run 5 6 rfl (by kernel_rfl) ?_
          refine ite_both h (fun h_43734 h => ?_) (fun h_43734 h => ?_)
          · refine dd_runG 6 9 5 true rfl (b := (x_43728.2 == 0)) (by kernel_rfl) h_43734 (by kernel_rfl) ?_
            refine dd_oneG 9 (.binOp .eql 31 (.tmp 89) (.tmp 91) 31) (some 92) 5 true (b := (x_43728.2 == 0)) (by kernel_rfl) (by kernel_rfl) h_43734 (o_cmp (x := .agg (cs_Ratio x_43728.1)) (y := .agg (cs_Ratio x_43711.1.Value)) (decide (x_43728.1 = x_43711.1.Value)) (by kernel_rfl) (by kernel_rfl) (by kernel_rfl) (eql_Ratio x_43728.1 x_43711.1.Value) rfl) ?_
            refine dd_one 10 (.pick (.tmp 88) (.tmp 92) (.const (.bool false))) (some 93) (by kernel_rfl) (o_pure (B (decide (x_43728.1 = x_43711.1.Value))) (ev_pickT h_43734 (by kernel_rfl) (by kernel_rfl)) rfl) ?_
            refine ops_fin' hK_43732 ⟨[(10, B (decide (x_43728.1 = x_43711.1.Value)))], [(3, ⟨31, 0, (cs_Ratio x_43728.1)⟩), (0, ⟨33, 0, (cs_Amount x_43701.1)⟩), (1, ⟨33, 0, (cs_Amount x_43706.1)⟩), (2, ⟨33, 0, (cs_Amount x_43711.1)⟩)], 4⟩ (by kernel_rfl) (leB rfl) ?_
            refine w_ret ?_
            obtain rfl := ((Option.some.inj h).symm).symm
            exact ret_leaf (.inl rfl) ⟨[(10, B (decide (x_43728.1 = x_43711.1.Value)))], [], 0⟩ (to_ren [] (leB rfl) (by kernel_rfl) (by kernel_rfl) (renE_of (by kernel_rfl) (by kernel_rfl)) trivial) [B (decide (x_43728.1 = x_43711.1.Value))] (by kernel_rfl) (by kernel_rfl) (leB rfl) (by kernel_rfl) trivial
          · refine dd_skip 6 10 5 true rfl (b := (x_43728.2 == 0)) (by kernel_rfl) h_43734 (by kernel_rfl) ?_
            refine dd_one 10 (.pick (.tmp 88) (.tmp 92) (.const (.bool false))) (some 93) (by kernel_rfl) (o_pure (B false) (ev_pickF h_43734 (by kernel_rfl) (by kernel_rfl)) rfl) ?_
            refine ops_fin' hK_43732 ⟨[(10, B false)], [(3, ⟨31, 0, (cs_Ratio x_43728.1)⟩), (0, ⟨33, 0, (cs_Amount x_43701.1)⟩), (1, ⟨33, 0, (cs_Amount x_43706.1)⟩), (2, ⟨33, 0, (cs_Amount x_43711.1)⟩)], 4⟩ (by kernel_rfl) (leB rfl) ?_
            refine w_ret ?_
            obtain rfl := ((Option.some.inj h).symm).symm
            exact ret_leaf (.inl rfl) ⟨[(10, B false)], [], 0⟩ (to_ren [] (leB rfl) (by kernel_rfl) (by kernel_rfl) (renE_of (by kernel_rfl) (by kernel_rfl)) trivial) [B false] (by kernel_rfl) (by kernel_rfl) (leB rfl) (by kernel_rfl) trivial
        · refine dd_skip 2 4 1 true rfl (b := x_43683) (by kernel_rfl) h_43733 (by kernel_rfl) ?_
          refine dd_one 4 (.pick (.tmp 84) (.tmp 86) (.const (.bool false))) (some 87) (by kernel_rfl) (o_pure (B false) (ev_pickF h_43733 (by kernel_rfl) (by kernel_rfl)) rfl) ?_
          refine dd_run 5 6 rfl (by kernel_rfl) ?_
          refine dd_skip 6 10 5 true rfl (b := false) (by kernel_rfl) rfl (by kernel_rfl) ?_
          refine ops_fin' hK_43732 ⟨[(10, B false)], [(3, ⟨31, 0, (cs_Ratio x_43728.1)⟩), (0, ⟨33, 0, (cs_Amount x_43701.1)⟩), (1, ⟨33, 0, (cs_Amount x_43706.1)⟩), (2, ⟨33, 0, (cs_Amount x_43711.1)⟩)], 4⟩ (by kernel_rfl) (leB rfl) ?_
          refine w_ret ?_
          obtain rfl := ((Option.some.inj h).symm).symm
          exact ret_leaf (.inl rfl) ⟨[(10, B false)], [], 0⟩ (to_ren [] (leB rfl) (by kernel_rfl) (by kernel_rfl) (renE_of (by kernel_rfl) (by kernel_rfl)) trivial) [B false] (by kernel_rfl) (by kernel_rfl) (leB rfl) (by kernel_rfl) trivial
end Go.Proofs.YtdfokoapenhalaaDoor.Ab
