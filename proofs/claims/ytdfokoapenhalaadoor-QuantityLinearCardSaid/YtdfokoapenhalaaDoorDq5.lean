/- Functions of the program as plain functions (printed by wip/dec.py). -/
import Derived.Test.YtdfokoapenhalaaDoorDq1
import Derived.Test.YtdfokoapenhalaaDoorDq3
import Derived.Test.YtdfokoapenhalaaDoorDq4
namespace Go.Proofs.YtdfokoapenhalaaDoor.Ab
open Go Go.RowKit Go.Shelf
/-- estoppel/quantity.Convert -/
def g_quantity_Convert (a1 : List D.Unit) (a2 : D.Amount) (a3 : Int) : Option (D.Amount × Int) :=
  (g_quantity_Valid a1).bind fun x_13155 =>
  (g_estoppel_quantity_table_at a1 a3).bind fun x_13160 =>
  bindF (ρ := Bool) (
  if (!x_13155.2) = true then
  some (.inl true)
  else
  if (!x_13160.2) = true then
  some (.inl true)
  else
  (g_estoppel_quantity_table_has a1 a2).bind fun x_13198 =>
  some (.inl (!x_13198))) (fun (e_13193 : Bool) =>
  if e_13193 = true then
  some ((D.Amount.mk 0 (D.Ratio.mk 0 0)), 1)
  else
  (getI a1 a2.Unit).bind fun x_13212 =>
  if (x_13212.Base != x_13160.1.Base) = true then
  some ((D.Amount.mk 0 (D.Ratio.mk 0 0)), 11)
  else
  (g_estoppel_quantity_table_value a1 a2 a3).bind fun x_13218 =>
  if (x_13218.2 != 0) = true then
  some ((D.Amount.mk 0 (D.Ratio.mk 0 0)), x_13218.2)
  else
  some ((D.Amount.mk a3 x_13218.1), 0))
set_option maxHeartbeats 4000000 in
theorem g_quantity_Convert_ok {a1 : List D.Unit} {a2 : D.Amount} {a3 : Int} {res : D.Amount × Int} (h : g_quantity_Convert a1 a2 a3 = some res) : SpecK Tryd.prog [] 17 [sl 5 cs_Unit a1, .agg (cs_Amount a2), I a3] [] 0 (.tup [.agg (cs_Amount res.1), I res.2]) [] 0 := by
  refine ⟨spec_of_wp Tryd.func17 (by kernel_rfl) rfl Tryd.ntmps17 (by rw [Tryd.results17]) (leB rfl) ?_, by kernel_rfl, trivial, by kernel_rfl, trivial, by kernel_rfl⟩
  unfold g_quantity_Convert at h
  refine w_reg ⟨[(0, sl 5 cs_Unit a1), (2, I a3), (4, .ip (cs_Amount a2)), (6, .ptr 0 0)], [(0, ⟨33, 0, [I 0, I 0, I 0]⟩)], 1⟩ (by kernel_rfl) (leB rfl) ?_
  refine w_reg ⟨[(0, sl 5 cs_Unit a1), (2, I a3), (4, .ip (cs_Amount a2)), (6, .ptr 0 0), (8, sl 5 cs_Unit a1)], [(0, ⟨33, 0, [I 0, I 0, I 0]⟩)], 1⟩ (by kernel_rfl) (leB rfl) ?_
  refine w_seq (fun K hK_13154 => w_reg0 ?_)
  refine dd_run 0 1 rfl (by kernel_rfl) ?_
  obtain ⟨x_13155, h_13156, h⟩ := bind_some' h
  refine dd_one 1 (.call ⟨.value (.func 13), #[(.tmp 17)], #[22]⟩) (some 18) (by kernel_rfl) (o_callP (g_quantity_Valid_ok h_13156) (by kernel_rfl) rfl) ?_
  refine ops_fin' hK_13154 ⟨[(2, I a3), (4, .ip (cs_Amount a2)), (6, .ptr 0 0), (8, sl 5 cs_Unit a1), (10, B x_13155.2)], [(0, ⟨33, 0, [I 0, I 0, I 0]⟩)], 1⟩ (by kernel_rfl) (leB rfl) ?_
  refine w_seq (fun K hK_13159 => w_reg0 ?_)
  refine dd_run 0 2 rfl (by kernel_rfl) ?_
  obtain ⟨x_13160, h_13161, h⟩ := bind_some' h
  refine dd_one 2 (.call ⟨.value (.func 33), #[(.tmp 22), (.tmp 23)], #[55, 3]⟩) (some 24) (by kernel_rfl) (o_callP (g_estoppel_quantity_table_at_ok h_13161) (by kernel_rfl) rfl) ?_
  refine ops_fin' hK_13159 ⟨[(2, I a3), (4, .ip (cs_Amount a2)), (6, .ptr 0 0), (8, sl 5 cs_Unit a1), (10, B x_13155.2), (11, .ptr 1 0), (12, B x_13160.2)], [(1, ⟨42, 0, (cs_Unit x_13160.1)⟩), (0, ⟨33, 0, [I 0, I 0, I 0]⟩)], 2⟩ (by kernel_rfl) (leB rfl) ?_
  refine w_seq (fun K hK_13188 => ?_)
  refine w_block ?_
  refine w_cut h (fun (e_13193 : Bool) => ⟨[(2, I a3), (4, .ip (cs_Amount a2)), (6, .ptr 0 0), (8, sl 5 cs_Unit a1), (11, .ptr 1 0), (27, B e_13193)], [(0, ⟨33, 0, [I 0, I 0, I 0]⟩), (1, ⟨42, 0, (cs_Unit x_13160.1)⟩)], 2⟩) (fun o h h_13194 K hK_13195 => ?_) (fun e_13193 h => ?_)
  · refine w_reg0 ?_
    refine dd_run 0 3 rfl (by kernel_rfl) ?_
    refine ite_both h (fun h_13196 h => ?_) (fun h_13196 h => ?_)
    · refine dd_skip 3 5 2 false rfl (b := (!x_13155.2)) (by kernel_rfl) h_13196 (by kernel_rfl) ?_
      refine dd_one 5 (.pick (.tmp 30) (.const (.bool true)) (.tmp 32)) (some 33) (by kernel_rfl) (o_pure (B true) (ev_pickT h_13196 (by kernel_rfl) (by kernel_rfl)) rfl) ?_
      refine dd_run 6 7 rfl (by kernel_rfl) ?_
      refine dd_skip 7 11 6 false rfl (b := true) (by kernel_rfl) rfl (by kernel_rfl) ?_
      refine dd_run 11 13 rfl (by kernel_rfl) ?_
      refine dd_nil 13 rfl ?_
      exact hK_13195 _ _ (Option.some.inj h).symm (to_ren [] (leB rfl) (by kernel_rfl) (by kernel_rfl) (renE_of (by kernel_rfl) (by kernel_rfl)) ⟨reRn (by kernel_rfl) (leB rfl) (by kernel_rfl), ⟨reRn (by kernel_rfl) (leB rfl) (by kernel_rfl), trivial⟩⟩)
    · refine dd_runG 3 5 2 false rfl (b := (!x_13155.2)) (by kernel_rfl) h_13196 (by kernel_rfl) ?_
      refine dd_one 5 (.pick (.tmp 30) (.const (.bool true)) (.tmp 32)) (some 33) (by kernel_rfl) (o_pure (B (!x_13160.2)) (ev_pickF h_13196 (by kernel_rfl) (by kernel_rfl)) rfl) ?_
      refine dd_run 6 7 rfl (by kernel_rfl) ?_
      refine ite_both h (fun h_13197 h => ?_) (fun h_13197 h => ?_)
      · refine dd_skip 7 11 6 false rfl (b := (!x_13160.2)) (by kernel_rfl) h_13197 (by kernel_rfl) ?_
        refine dd_one 11 (.pick (.tmp 34) (.const (.bool true)) (.tmp 38)) (some 39) (by kernel_rfl) (o_pure (B true) (ev_pickT h_13197 (by kernel_rfl) (by kernel_rfl)) rfl) ?_
        refine dd_run 12 13 rfl (by kernel_rfl) ?_
        refine dd_nil 13 rfl ?_
        exact hK_13195 _ _ (Option.some.inj h).symm (to_ren [] (leB rfl) (by kernel_rfl) (by kernel_rfl) (renE_of (by kernel_rfl) (by kernel_rfl)) ⟨reRn (by kernel_rfl) (leB rfl) (by kernel_rfl), ⟨reRn (by kernel_rfl) (leB rfl) (by kernel_rfl), trivial⟩⟩)
      · refine dd_runG 7 9 6 false rfl (b := (!x_13160.2)) (by kernel_rfl) h_13197 (by kernel_rfl) ?_
        obtain ⟨x_13198, h_13199, h⟩ := bind_some' h
        refine dd_oneG 9 (.call ⟨.value (.func 34), #[(.tmp 35), (.tmp 36)], #[55, 33]⟩) (some 37) 6 false (b := (!x_13160.2)) (by kernel_rfl) (by kernel_rfl) h_13197 (o_callP (g_estoppel_quantity_table_has_ok h_13199) (by kernel_rfl) rfl) ?_
        refine dd_runG 10 11 6 false rfl (b := (!x_13160.2)) (by kernel_rfl) h_13197 (by kernel_rfl) ?_
        refine dd_one 11 (.pick (.tmp 34) (.const (.bool true)) (.tmp 38)) (some 39) (by kernel_rfl) (o_pure (B (!x_13198)) (ev_pickF h_13197 (by kernel_rfl) (by kernel_rfl)) rfl) ?_
        refine dd_run 12 13 rfl (by kernel_rfl) ?_
        refine dd_nil 13 rfl ?_
        exact hK_13195 _ _ (Option.some.inj h).symm (to_ren [] (leB rfl) (by kernel_rfl) (by kernel_rfl) (renE_of (by kernel_rfl) (by kernel_rfl)) ⟨reRn (by kernel_rfl) (leB rfl) (by kernel_rfl), ⟨reRn (by kernel_rfl) (leB rfl) (by kernel_rfl), trivial⟩⟩)
  · refine w_ite h (by kernel_rfl) (fun h_13200 h => ?_) (fun h_13200 h => ?_)
    · refine w_reg ⟨[(6, .ptr 0 0), (7, I 1)], [(0, ⟨33, 0, [I 0, I 0, I 0]⟩), (1, ⟨42, 0, (cs_Unit x_13160.1)⟩)], 2⟩ (by kernel_rfl) (leB rfl) ?_
      refine w_ret ?_
      obtain rfl := ((Option.some.inj h).symm).symm
      exact ret_leaf (.inl rfl) ⟨[(6, .ptr 0 0), (7, I 1)], [(0, ⟨33, 0, (cs_Amount (D.Amount.mk 0 (D.Ratio.mk 0 0)))⟩)], 1⟩ (to_ren [] (leB rfl) (by kernel_rfl) (by kernel_rfl) (renE_of (by kernel_rfl) (by kernel_rfl)) ⟨reRn (by kernel_rfl) (leB rfl) (by kernel_rfl), trivial⟩) [.agg (cs_Amount (D.Amount.mk 0 (D.Ratio.mk 0 0))), I 1] (by kernel_rfl) (by kernel_rfl) (leB rfl) (by kernel_rfl) trivial
    · refine w_seq (fun K hK_13209 => w_mix0 (by kernel_rfl) (by kernel_rfl) ?_)
      refine mm_run 0 3 rfl (by kernel_rfl) ?_
      obtain ⟨x_13212, h_13213, h⟩ := bind_some' h
      refine mm_one 3 (.indexAddr 55 (.tmp 42) (.tmp 44)) (some 45) (by kernel_rfl) (by kernel_rfl) (oH_pure (.ip (cs_Unit x_13212)) (ev_idx_sl (e := 42) (k := 5) (c := cs_Unit) (ik := .i64) h_13213 (by kernel_rfl) (by kernel_rfl) (by kernel_rfl) (by kernel_rfl)) rfl) ?_
      refine mix_fin' hK_13209 ⟨[(2, I a3), (4, .ip (cs_Amount a2)), (6, .ptr 0 0), (8, sl 5 cs_Unit a1), (41, B (x_13212.Base != x_13160.1.Base))], [(0, ⟨33, 0, [I 0, I 0, I 0]⟩), (1, ⟨42, 0, (cs_Unit x_13160.1)⟩)], 2⟩ (by kernel_rfl) (leB rfl) ?_
      refine w_ite h (by kernel_rfl) (fun h_13214 h => ?_) (fun h_13214 h => ?_)
      · refine w_reg ⟨[(6, .ptr 0 0), (7, I 11)], [(0, ⟨33, 0, [I 0, I 0, I 0]⟩), (1, ⟨42, 0, (cs_Unit x_13160.1)⟩)], 2⟩ (by kernel_rfl) (leB rfl) ?_
        refine w_ret ?_
        obtain rfl := ((Option.some.inj h).symm).symm
        exact ret_leaf (.inl rfl) ⟨[(6, .ptr 0 0), (7, I 11)], [(0, ⟨33, 0, (cs_Amount (D.Amount.mk 0 (D.Ratio.mk 0 0)))⟩)], 1⟩ (to_ren [] (leB rfl) (by kernel_rfl) (by kernel_rfl) (renE_of (by kernel_rfl) (by kernel_rfl)) ⟨reRn (by kernel_rfl) (leB rfl) (by kernel_rfl), trivial⟩) [.agg (cs_Amount (D.Amount.mk 0 (D.Ratio.mk 0 0))), I 11] (by kernel_rfl) (by kernel_rfl) (leB rfl) (by kernel_rfl) trivial
      · refine w_skip ?_
        refine hK_13188 _ ⟨[(2, I a3), (4, .ip (cs_Amount a2)), (6, .ptr 0 0), (8, sl 5 cs_Unit a1)], [(0, ⟨33, 0, [I 0, I 0, I 0]⟩), (1, ⟨42, 0, (cs_Unit x_13160.1)⟩)], 2⟩ (to_trim (by kernel_rfl) (leB rfl)) ?_
        refine w_seq (fun K hK_13217 => w_reg0 ?_)
        refine dd_run 0 3 rfl (by kernel_rfl) ?_
        obtain ⟨x_13218, h_13219, h⟩ := bind_some' h
        refine dd_one 3 (.call ⟨.value (.func 35), #[(.tmp 53), (.tmp 54), (.tmp 55)], #[55, 33, 3]⟩) (some 56) (by kernel_rfl) (o_callP (g_estoppel_quantity_table_value_ok h_13219) (by kernel_rfl) rfl) ?_
        refine ops_fin' hK_13217 ⟨[(2, I a3), (6, .ptr 0 0), (13, .ptr 2 0), (14, I x_13218.2)], [(2, ⟨31, 0, (cs_Ratio x_13218.1)⟩), (0, ⟨33, 0, [I 0, I 0, I 0]⟩), (1, ⟨42, 0, (cs_Unit x_13160.1)⟩)], 3⟩ (by kernel_rfl) (leB rfl) ?_
        refine w_assoc ?_
        refine w_reg ⟨[(2, I a3), (6, .ptr 0 0), (13, .ptr 2 0), (14, I x_13218.2), (60, B (x_13218.2 != 0))], [(2, ⟨31, 0, (cs_Ratio x_13218.1)⟩), (0, ⟨33, 0, [I 0, I 0, I 0]⟩), (1, ⟨42, 0, (cs_Unit x_13160.1)⟩)], 3⟩ (by kernel_rfl) (leB rfl) ?_
        refine w_seq (fun K hK_13221 => ?_)
        refine w_ite h (by kernel_rfl) (fun h_13222 h => ?_) (fun h_13222 h => ?_)
        · refine w_reg ⟨[(6, .ptr 0 0), (7, I x_13218.2)], [(2, ⟨31, 0, (cs_Ratio x_13218.1)⟩), (0, ⟨33, 0, [I 0, I 0, I 0]⟩), (1, ⟨42, 0, (cs_Unit x_13160.1)⟩)], 3⟩ (by kernel_rfl) (leB rfl) ?_
          refine w_ret ?_
          obtain rfl := ((Option.some.inj h).symm).symm
          exact ret_leaf (.inl rfl) ⟨[(6, .ptr 0 0), (7, I x_13218.2)], [(0, ⟨33, 0, (cs_Amount (D.Amount.mk 0 (D.Ratio.mk 0 0)))⟩)], 1⟩ (to_ren [] (leB rfl) (by kernel_rfl) (by kernel_rfl) (renE_of (by kernel_rfl) (by kernel_rfl)) ⟨reRn (by kernel_rfl) (leB rfl) (by kernel_rfl), trivial⟩) [.agg (cs_Amount (D.Amount.mk 0 (D.Ratio.mk 0 0))), I x_13218.2] (by kernel_rfl) (by kernel_rfl) (leB rfl) (by kernel_rfl) trivial
        · refine w_skip ?_
          refine hK_13221 _ ⟨[(2, I a3), (6, .ptr 0 0), (13, .ptr 2 0)], [(2, ⟨31, 0, (cs_Ratio x_13218.1)⟩), (0, ⟨33, 0, [I 0, I 0, I 0]⟩), (1, ⟨42, 0, (cs_Unit x_13160.1)⟩)], 3⟩ (to_trim (by kernel_rfl) (leB rfl)) ?_
          refine w_reg ⟨[(6, .ptr 0 0), (7, I 0)], [(2, ⟨31, 0, (cs_Ratio x_13218.1)⟩), (0, ⟨33, 0, ([I a3] ++ (cs_Ratio x_13218.1))⟩), (1, ⟨42, 0, (cs_Unit x_13160.1)⟩)], 3⟩ (by kernel_rfl) (leB rfl) ?_
          refine w_ret ?_
          obtain rfl := ((Option.some.inj h).symm).symm
          exact ret_leaf (.inl rfl) ⟨[(6, .ptr 0 0), (7, I 0)], [(0, ⟨33, 0, (cs_Amount (D.Amount.mk a3 x_13218.1))⟩)], 1⟩ (to_ren [] (leB rfl) (by kernel_rfl) (by kernel_rfl) (renE_of (by kernel_rfl) (by kernel_rfl)) ⟨reRn (by kernel_rfl) (leB rfl) (by kernel_rfl), trivial⟩) [.agg (cs_Amount (D.Amount.mk a3 x_13218.1)), I 0] (by kernel_rfl) (by kernel_rfl) (leB rfl) (by kernel_rfl) trivial
/-- (estoppel/quantity.table).all -/
def g_estoppel_quantity_table_all (a1 : List D.Unit) (a2 : List D.Amount) : Option (Bool) :=
  (g_quantity_Valid a1).bind fun x_13374 =>
  bindF (ρ := Bool) (
  loopO (σ := Bool × Int) (fun s_13489 =>
  bindF (ρ := Bool) (
  if (decide (s_13489.2 < (a2.length : Int))) = true then
  some (.inl s_13489.1)
  else
  some (.inl false)) (fun (e_13493 : Bool) =>
  if e_13493 = true then
  (getI a2 s_13489.2).bind fun x_13509 =>
  (g_estoppel_quantity_table_has a1 x_13509).bind fun x_13511 =>
  some (.inl (x_13511, (IntKind.i64.wrap (s_13489.2 + 1))))
  else
  some (.inr (.inl s_13489.1)))) (x_13374.2, 0)) (fun (e_13442 : Bool) =>
  some e_13442)
set_option maxHeartbeats 4000000 in
theorem g_estoppel_quantity_table_all_ok {a1 : List D.Unit} {a2 : List D.Amount} {res : Bool} (h : g_estoppel_quantity_table_all a1 a2 = some res) : SpecK Tryd.prog [] 38 [sl 5 cs_Unit a1, sl 3 cs_Amount a2] [] 0 (B res) [] 0 := by
  refine ⟨spec_of_wp Tryd.func38 (by kernel_rfl) rfl Tryd.ntmps38 (by rw [Tryd.results38]) (leB rfl) ?_, by kernel_rfl, trivial, by kernel_rfl, trivial, by kernel_rfl⟩
  unfold g_estoppel_quantity_table_all at h
  refine w_reg ⟨[(0, sl 5 cs_Unit a1), (1, sl 3 cs_Amount a2)], [], 0⟩ (by kernel_rfl) (leB rfl) ?_
  refine w_seq (fun K hK_13373 => w_reg0 ?_)
  refine dd_run 0 1 rfl (by kernel_rfl) ?_
  obtain ⟨x_13374, h_13375, h⟩ := bind_some' h
  refine dd_one 1 (.call ⟨.value (.func 13), #[(.tmp 9)], #[22]⟩) (some 10) (by kernel_rfl) (o_callP (g_quantity_Valid_ok h_13375) (by kernel_rfl) rfl) ?_
  refine ops_fin' hK_13373 ⟨[(0, sl 5 cs_Unit a1), (1, sl 3 cs_Amount a2), (6, B x_13374.2)], [], 0⟩ (by kernel_rfl) (leB rfl) ?_
  refine w_assoc ?_
  refine w_reg ⟨[(0, sl 5 cs_Unit a1), (1, sl 3 cs_Amount a2), (6, B x_13374.2), (7, I 0)], [], 0⟩ (by kernel_rfl) (leB rfl) ?_
  refine w_cut h (fun (e_13442 : Bool) => ⟨[(6, B e_13442)], [], 0⟩) (fun o h h_13443 K hK_13444 => ?_) (fun e_13442 h => ?_)
  · refine w_block ?_
    refine w_loopO h (fun (s_13489 : Bool × Int) => ⟨[(0, sl 5 cs_Unit a1), (1, sl 3 cs_Amount a2), (6, B s_13489.1), (7, I s_13489.2)], [], 0⟩) (to_ren [] (leB rfl) (by kernel_rfl) (by kernel_rfl) (renE_of (by kernel_rfl) (by kernel_rfl)) trivial) (fun s_13489 o h h_13490 K hK_13491 => ?_)
    · refine w_assoc ?_
      refine w_cut h (fun (e_13493 : Bool) => ⟨[(0, sl 5 cs_Unit a1), (1, sl 3 cs_Amount a2), (6, B s_13489.1), (7, I s_13489.2), (19, B e_13493)], [], 0⟩) (fun o h h_13494 K hK_13495 => ?_) (fun e_13493 h => ?_)
      · refine w_reg0 ?_
        refine dd_run 0 2 rfl (by kernel_rfl) ?_
        refine dd_one 2 (.call ⟨.builtin .len, #[(.tmp 14)], #[23]⟩) (some 15) (by kernel_rfl) (o_pure (I (a2.length : Int)) (ev_len_sl (e := 33) (ty := 0) (k := 3) (c := cs_Amount) (by kernel_rfl) (by kernel_rfl)) rfl) ?_
        refine dd_run 3 5 rfl (by kernel_rfl) ?_
        refine ite_both h (fun h_13496 h => ?_) (fun h_13496 h => ?_)
        · refine dd_runG 5 6 4 true rfl (b := (decide (s_13489.2 < (a2.length : Int)))) (by kernel_rfl) h_13496 (by kernel_rfl) ?_
          refine dd_one 6 (.pick (.tmp 17) (.tmp 18) (.const (.bool false))) (some 19) (by kernel_rfl) (o_pure (B s_13489.1) (ev_pickT h_13496 (by kernel_rfl) (by kernel_rfl)) rfl) ?_
          refine dd_nil 7 rfl ?_
          exact hK_13495 _ _ (Option.some.inj h).symm (to_ren [] (leB rfl) (by kernel_rfl) (by kernel_rfl) (renE_of (by kernel_rfl) (by kernel_rfl)) trivial)
        · refine dd_skip 5 6 4 true rfl (b := (decide (s_13489.2 < (a2.length : Int)))) (by kernel_rfl) h_13496 (by kernel_rfl) ?_
          refine dd_one 6 (.pick (.tmp 17) (.tmp 18) (.const (.bool false))) (some 19) (by kernel_rfl) (o_pure (B false) (ev_pickF h_13496 (by kernel_rfl) (by kernel_rfl)) rfl) ?_
          refine dd_nil 7 rfl ?_
          exact hK_13495 _ _ (Option.some.inj h).symm (to_ren [] (leB rfl) (by kernel_rfl) (by kernel_rfl) (renE_of (by kernel_rfl) (by kernel_rfl)) trivial)
      · refine w_seq (fun K hK_13498 => ?_)
        refine w_ite h (by kernel_rfl) (fun h_13499 h => ?_) (fun h_13499 h => ?_)
        · refine w_skip ?_
          refine hK_13498 _ ⟨[(0, sl 5 cs_Unit a1), (1, sl 3 cs_Amount a2), (7, I s_13489.2)], [], 0⟩ (to_trim (by kernel_rfl) (leB rfl)) ?_
          refine w_seq (fun K hK_13506 => ?_)
          refine w_block ?_
          refine w_reg0 ?_
          refine dd_run 0 3 rfl (by kernel_rfl) ?_
          obtain ⟨x_13509, h_13510, h⟩ := bind_some' h
          refine dd_one 3 (.indexAddr 23 (.tmp 23) (.tmp 24)) (some 25) (by kernel_rfl) (o_pure (.ip (cs_Amount x_13509)) (ev_idx_sl (e := 33) (k := 3) (c := cs_Amount) (ik := .i64) h_13510 (by kernel_rfl) (by kernel_rfl) (by kernel_rfl) (by kernel_rfl)) rfl) ?_
          refine dd_run 4 5 rfl (by kernel_rfl) ?_
          obtain ⟨x_13511, h_13512, h⟩ := bind_some' h
          refine dd_one 5 (.call ⟨.value (.func 34), #[(.tmp 22), (.tmp 26)], #[55, 33]⟩) (some 27) (by kernel_rfl) (o_callP (g_estoppel_quantity_table_has_ok h_13512) (by kernel_rfl) rfl) ?_
          refine dd_run 6 7 rfl (by kernel_rfl) ?_
          refine dd_nil 7 rfl ?_
          refine hK_13506 _ ⟨[(0, sl 5 cs_Unit a1), (1, sl 3 cs_Amount a2), (6, B x_13511), (7, I s_13489.2)], [], 0⟩ (to_trim (by kernel_rfl) (leB rfl)) ?_
          refine w_reg0 ?_
          refine dd_run 0 3 rfl (by kernel_rfl) ?_
          refine dd_nil 3 rfl ?_
          exact hK_13491 _ _ (Option.some.inj h).symm (to_ren [] (leB rfl) (by kernel_rfl) (by kernel_rfl) (renE_of (by kernel_rfl) (by kernel_rfl)) trivial)
        · refine w_exit ?_
          exact hK_13444 _ _ (h_13490 _ (Option.some.inj h).symm).symm (to_ren [] (leB rfl) (by kernel_rfl) (by kernel_rfl) (renE_of (by kernel_rfl) (by kernel_rfl)) trivial)
  · refine w_reg ⟨[(4, B e_13442)], [], 0⟩ (by kernel_rfl) (leB rfl) ?_
    refine w_ret ?_
    obtain rfl := ((Option.some.inj h).symm).symm
    exact ret_leaf (.inl rfl) ⟨[(4, B e_13442)], [], 0⟩ (to_ren [] (leB rfl) (by kernel_rfl) (by kernel_rfl) (renE_of (by kernel_rfl) (by kernel_rfl)) trivial) [B e_13442] (by kernel_rfl) (by kernel_rfl) (leB rfl) (by kernel_rfl) trivial
/-- estoppel/quantity.Sum$1 -/
def g_quantity_Sum_1 (a1 : D.Amount) (a2 : Int) : Option (Int) :=
  some a2
set_option maxHeartbeats 4000000 in
theorem g_quantity_Sum_1_ok {a1 : D.Amount} {a2 : Int} {res : Int} (h : g_quantity_Sum_1 a1 a2 = some res) : SpecK Tryd.prog [] 40 [.agg (cs_Amount a1), .ip [I a2]] [] 0 (I res) [] 0 := by
  refine ⟨spec_of_wp Tryd.func40 (by kernel_rfl) rfl Tryd.ntmps40 (by rw [Tryd.results40]) (leB rfl) ?_, by kernel_rfl, trivial, by kernel_rfl, trivial, by kernel_rfl⟩
  unfold g_quantity_Sum_1 at h
  refine w_reg ⟨[(1, .ip [I a2])], [], 0⟩ (by kernel_rfl) (leB rfl) ?_
  refine w_reg ⟨[(3, I a2)], [], 0⟩ (by kernel_rfl) (leB rfl) ?_
  refine w_ret ?_
  obtain rfl := ((Option.some.inj h).symm).symm
  exact ret_leaf (.inl rfl) ⟨[(3, I a2)], [], 0⟩ (to_ren [] (leB rfl) (by kernel_rfl) (by kernel_rfl) (renE_of (by kernel_rfl) (by kernel_rfl)) trivial) [I a2] (by kernel_rfl) (by kernel_rfl) (leB rfl) (by kernel_rfl) trivial
/-- estoppel/quantity.Sum$2 -/
def g_quantity_Sum_2 (a1 : Int) (a2 : D.Ratio) (a3 : D.Ratio) : Option (D.Ratio × Int) :=
  (g_ratio_Add a3 a2).bind fun x_13895 =>
  some (x_13895.1, x_13895.2)
set_option maxHeartbeats 4000000 in
theorem g_quantity_Sum_2_ok {a1 : Int} {a2 : D.Ratio} {a3 : D.Ratio} {res : D.Ratio × Int} (h : g_quantity_Sum_2 a1 a2 a3 = some res) : SpecK Tryd.prog [] 41 [I a1, .agg (cs_Ratio a2), .ptr 0 0] [(0, ⟨31, 0, (cs_Ratio a3)⟩)] 1 (I res.2) [(0, ⟨31, 0, (cs_Ratio res.1)⟩)] 1 := by
  refine ⟨spec_of_wp Tryd.func41 (by kernel_rfl) rfl Tryd.ntmps41 (by rw [Tryd.results41]) (leB rfl) ?_, by kernel_rfl, ⟨⟨leB rfl, by kernel_rfl⟩, trivial⟩, by kernel_rfl, ⟨⟨leB rfl, by kernel_rfl⟩, trivial⟩, by kernel_rfl⟩
  unfold g_quantity_Sum_2 at h
  refine w_reg ⟨[(2, .ptr 0 0), (4, .ip (cs_Ratio a2))], [(0, ⟨31, 0, (cs_Ratio a3)⟩)], 1⟩ (by kernel_rfl) (leB rfl) ?_
  refine w_seq (fun K hK_13894 => w_reg0 ?_)
  refine dd_run 0 2 rfl (by kernel_rfl) ?_
  obtain ⟨x_13895, h_13896, h⟩ := bind_some' h
  refine dd_one 2 (.call ⟨.value (.func 25), #[(.tmp 7), (.tmp 8)], #[31, 31]⟩) (some 9) (by kernel_rfl) (o_callP (g_ratio_Add_ok h_13896) (by kernel_rfl) rfl) ?_
  refine ops_fin' hK_13894 ⟨[(5, I x_13895.2)], [(0, ⟨31, 0, (cs_Ratio x_13895.1)⟩)], 1⟩ (by kernel_rfl) (leB rfl) ?_
  refine w_reg ⟨[(5, I x_13895.2)], [(0, ⟨31, 0, (cs_Ratio x_13895.1)⟩)], 1⟩ (by kernel_rfl) (leB rfl) ?_
  refine w_ret ?_
  obtain rfl := ((Option.some.inj h).symm).symm
  exact ret_leaf (.inl rfl) ⟨[(5, I x_13895.2)], [(0, ⟨31, 0, (cs_Ratio x_13895.1)⟩)], 1⟩ (to_ren [] (leB rfl) (by kernel_rfl) (by kernel_rfl) (renE_of (by kernel_rfl) (by kernel_rfl)) ⟨reRn (by kernel_rfl) (leB rfl) (by kernel_rfl), trivial⟩) [I x_13895.2] (by kernel_rfl) (by kernel_rfl) (leB rfl) (by kernel_rfl) ⟨⟨by kernel_rfl, leB rfl, (by kernel_rfl)⟩, trivial⟩
/-- estoppel/quantity.gather -/
def g_quantity_gather_value_Sum_1_Sum_2 (a1 : List D.Amount) (a2 : List D.Unit) (a3 : Int) (a4 : D.Ratio) : Option (D.Ratio × Int) :=
  bindF (ρ := D.Ratio) (
  loopO (σ := D.Ratio × Int) (fun s_14617 =>
  if (decide (s_14617.2 < (a1.length : Int))) = true then
  (getI a1 s_14617.2).bind fun x_14664 =>
  (g_quantity_Sum_1 x_14664 a3).bind fun x_14669 =>
  (g_estoppel_quantity_table_value a2 x_14664 x_14669).bind fun x_14674 =>
  bindF (ρ := D.Ratio × Int) (
  if (x_14674.2 == 0) = true then
  (g_quantity_Sum_2 x_14669 x_14674.1 s_14617.1).bind fun x_14683 =>
  some (.inl (x_14683.1, x_14683.2))
  else
  some (.inl (s_14617.1, x_14674.2))) (fun (e_14679 : D.Ratio × Int) =>
  if (e_14679.2 != 0) = true then
  some (.inr (.inr (e_14679.1, e_14679.2)))
  else
  some (.inl (e_14679.1, (IntKind.i64.wrap (s_14617.2 + 1)))))
  else
  some (.inr (.inl s_14617.1))) (a4, 0)) (fun (e_14480 : D.Ratio) =>
  some (e_14480, 0))
set_option maxHeartbeats 4000000 in
theorem g_quantity_gather_value_Sum_1_Sum_2_ok {a1 : List D.Amount} {a2 : List D.Unit} {a3 : Int} {a4 : D.Ratio} {res : D.Ratio × Int} (h : g_quantity_gather_value_Sum_1_Sum_2 a1 a2 a3 a4 = some res) : SpecK Tryd.prog [] 39 [sl 3 cs_Amount a1, .bm 35 [sl 5 cs_Unit a2], .fn 40 [.ip [I a3]], .fn 41 [.ptr 0 0]] [(0, ⟨31, 0, (cs_Ratio a4)⟩)] 1 (I res.2) [(0, ⟨31, 0, (cs_Ratio res.1)⟩)] 1 := by
  refine ⟨spec_of_wp Tryd.func39 (by kernel_rfl) rfl Tryd.ntmps39 (by rw [Tryd.results39]) (leB rfl) ?_, by kernel_rfl, ⟨⟨leB rfl, by kernel_rfl⟩, trivial⟩, by kernel_rfl, ⟨⟨leB rfl, by kernel_rfl⟩, trivial⟩, by kernel_rfl⟩
  unfold g_quantity_gather_value_Sum_1_Sum_2 at h
  refine w_reg ⟨[(0, sl 3 cs_Amount a1), (1, .bm 35 [sl 5 cs_Unit a2]), (2, .fn 40 [.ip [I a3]]), (3, .fn 41 [.ptr 0 0])], [(0, ⟨31, 0, (cs_Ratio a4)⟩)], 1⟩ (by kernel_rfl) (leB rfl) ?_
  refine w_assoc ?_
  refine w_seq (fun K hK_14278 => w_reg0 ?_)
  refine dd_run 0 1 rfl (by kernel_rfl) ?_
  refine dd_one 1 (.call ⟨.builtin .len, #[(.tmp 14)], #[23]⟩) (some 15) (by kernel_rfl) (o_pure (I (a1.length : Int)) (ev_len_sl (e := 33) (ty := 0) (k := 3) (c := cs_Amount) (by kernel_rfl) (by kernel_rfl)) rfl) ?_
  refine ops_fin' hK_14278 ⟨[(1, .bm 35 [sl 5 cs_Unit a2]), (2, .fn 40 [.ip [I a3]]), (3, .fn 41 [.ptr 0 0]), (14, sl 3 cs_Amount a1), (15, I (a1.length : Int)), (16, I 0)], [(0, ⟨31, 0, (cs_Ratio a4)⟩)], 1⟩ (by kernel_rfl) (leB rfl) ?_
  refine w_cut h (fun (e_14480 : D.Ratio) => ⟨[], [(0, ⟨31, 0, (cs_Ratio e_14480)⟩)], 1⟩) (fun o h h_14481 K hK_14482 => ?_) (fun e_14480 h => ?_)
  · refine w_block ?_
    refine w_loopO h (fun (s_14617 : D.Ratio × Int) => ⟨[(1, .bm 35 [sl 5 cs_Unit a2]), (2, .fn 40 [.ip [I a3]]), (3, .fn 41 [.ptr 0 0]), (14, sl 3 cs_Amount a1), (15, I (a1.length : Int)), (16, I s_14617.2)], [(0, ⟨31, 0, (cs_Ratio s_14617.1)⟩)], 1⟩) (to_ren [] (leB rfl) (by kernel_rfl) (by kernel_rfl) (renE_of (by kernel_rfl) (by kernel_rfl)) ⟨reRn (by kernel_rfl) (leB rfl) (by kernel_rfl), trivial⟩) (fun s_14617 o h h_14618 K hK_14619 => ?_)
    · refine w_reg ⟨[(1, .bm 35 [sl 5 cs_Unit a2]), (2, .fn 40 [.ip [I a3]]), (3, .fn 41 [.ptr 0 0]), (14, sl 3 cs_Amount a1), (15, I (a1.length : Int)), (16, I s_14617.2), (17, B (decide (s_14617.2 < (a1.length : Int))))], [(0, ⟨31, 0, (cs_Ratio s_14617.1)⟩)], 1⟩ (by kernel_rfl) (leB rfl) ?_
      refine w_seq (fun K hK_14621 => ?_)
      refine w_ite h (by kernel_rfl) (fun h_14622 h => ?_) (fun h_14622 h => ?_)
      · refine w_skip ?_
        refine hK_14621 _ ⟨[(1, .bm 35 [sl 5 cs_Unit a2]), (2, .fn 40 [.ip [I a3]]), (3, .fn 41 [.ptr 0 0]), (14, sl 3 cs_Amount a1), (15, I (a1.length : Int)), (16, I s_14617.2)], [(0, ⟨31, 0, (cs_Ratio s_14617.1)⟩)], 1⟩ (to_trim (by kernel_rfl) (leB rfl)) ?_
        refine w_seq (fun K hK_14654 => ?_)
        refine w_block ?_
        refine w_seq (fun K hK_14661 => w_reg0 ?_)
        obtain ⟨x_14664, h_14665, h⟩ := bind_some' h
        refine dd_one 0 (.indexAddr 23 (.tmp 14) (.tmp 16)) (some 18) (by kernel_rfl) (o_pure (.ip (cs_Amount x_14664)) (ev_idx_sl (e := 33) (k := 3) (c := cs_Amount) (ik := .i64) h_14665 (by kernel_rfl) (by kernel_rfl) (by kernel_rfl) (by kernel_rfl)) rfl) ?_
        refine ops_fin' hK_14661 ⟨[(1, .bm 35 [sl 5 cs_Unit a2]), (2, .fn 40 [.ip [I a3]]), (3, .fn 41 [.ptr 0 0]), (10, .ptr 1 0), (14, sl 3 cs_Amount a1), (15, I (a1.length : Int)), (16, I s_14617.2)], [(1, ⟨33, 0, (cs_Amount x_14664)⟩), (0, ⟨31, 0, (cs_Ratio s_14617.1)⟩)], 2⟩ (by kernel_rfl) (leB rfl) ?_
        refine w_seq (fun K hK_14668 => w_reg0 ?_)
        refine dd_run 0 2 rfl (by kernel_rfl) ?_
        obtain ⟨x_14669, h_14670, h⟩ := bind_some' h
        refine dd_one 2 (.call ⟨.value (.tmp 20), #[(.tmp 21)], #[33]⟩) (some 22) (by kernel_rfl) (o_callP (g_quantity_Sum_1_ok h_14670) (by kernel_rfl) rfl) ?_
        refine ops_fin' hK_14668 ⟨[(1, .bm 35 [sl 5 cs_Unit a2]), (2, .fn 40 [.ip [I a3]]), (3, .fn 41 [.ptr 0 0]), (10, .ptr 1 0), (11, I x_14669), (14, sl 3 cs_Amount a1), (15, I (a1.length : Int)), (16, I s_14617.2)], [(1, ⟨33, 0, (cs_Amount x_14664)⟩), (0, ⟨31, 0, (cs_Ratio s_14617.1)⟩)], 2⟩ (by kernel_rfl) (leB rfl) ?_
        refine w_seq (fun K hK_14673 => w_reg0 ?_)
        refine dd_run 0 3 rfl (by kernel_rfl) ?_
        obtain ⟨x_14674, h_14675, h⟩ := bind_some' h
        refine dd_one 3 (.call ⟨.value (.tmp 24), #[(.tmp 25), (.tmp 26)], #[33, 3]⟩) (some 27) (by kernel_rfl) (o_callP (g_estoppel_quantity_table_value_ok h_14675) (by kernel_rfl) rfl) ?_
        refine ops_fin' hK_14673 ⟨[(1, .bm 35 [sl 5 cs_Unit a2]), (2, .fn 40 [.ip [I a3]]), (3, .fn 41 [.ptr 0 0]), (11, I x_14669), (12, .ptr 2 0), (13, I x_14674.2), (14, sl 3 cs_Amount a1), (15, I (a1.length : Int)), (16, I s_14617.2)], [(2, ⟨31, 0, (cs_Ratio x_14674.1)⟩), (1, ⟨33, 0, (cs_Amount x_14664)⟩), (0, ⟨31, 0, (cs_Ratio s_14617.1)⟩)], 3⟩ (by kernel_rfl) (leB rfl) ?_
        refine w_assoc ?_
        refine w_reg ⟨[(1, .bm 35 [sl 5 cs_Unit a2]), (2, .fn 40 [.ip [I a3]]), (3, .fn 41 [.ptr 0 0]), (11, I x_14669), (12, .ptr 2 0), (13, I x_14674.2), (14, sl 3 cs_Amount a1), (15, I (a1.length : Int)), (16, I s_14617.2), (31, B (x_14674.2 == 0))], [(2, ⟨31, 0, (cs_Ratio x_14674.1)⟩), (1, ⟨33, 0, (cs_Amount x_14664)⟩), (0, ⟨31, 0, (cs_Ratio s_14617.1)⟩)], 3⟩ (by kernel_rfl) (leB rfl) ?_
        refine w_cut h (fun (e_14679 : D.Ratio × Int) => ⟨[(1, .bm 35 [sl 5 cs_Unit a2]), (2, .fn 40 [.ip [I a3]]), (3, .fn 41 [.ptr 0 0]), (13, I e_14679.2), (14, sl 3 cs_Amount a1), (15, I (a1.length : Int)), (16, I s_14617.2)], [(0, ⟨31, 0, (cs_Ratio e_14679.1)⟩)], 1⟩) (fun o h h_14680 K hK_14681 => ?_) (fun e_14679 h => ?_)
        · refine w_ite h (by kernel_rfl) (fun h_14682 h => ?_) (fun h_14682 h => ?_)
          · refine w_reg0 ?_
            refine dd_run 0 3 rfl (by kernel_rfl) ?_
            obtain ⟨x_14683, h_14684, h⟩ := bind_some' h
            refine dd_one 3 (.call ⟨.value (.tmp 32), #[(.tmp 33), (.tmp 34)], #[3, 31]⟩) (some 35) (by kernel_rfl) (o_callE [0] (g_quantity_Sum_2_ok h_14684) (by kernel_rfl) (by kernel_rfl) (by kernel_rfl) rfl) ?_
            refine dd_run 4 5 rfl (by kernel_rfl) ?_
            refine dd_nil 5 rfl ?_
            exact hK_14681 _ _ (Option.some.inj h).symm (to_ren [] (leB rfl) (by kernel_rfl) (by kernel_rfl) (renE_of (by kernel_rfl) (by kernel_rfl)) ⟨reRn (by kernel_rfl) (leB rfl) (by kernel_rfl), trivial⟩)
          · refine w_skip ?_
            exact hK_14681 _ _ (Option.some.inj h).symm (to_ren [] (leB rfl) (by kernel_rfl) (by kernel_rfl) (renE_of (by kernel_rfl) (by kernel_rfl)) ⟨reRn (by kernel_rfl) (leB rfl) (by kernel_rfl), trivial⟩)
        · refine w_reg ⟨[(1, .bm 35 [sl 5 cs_Unit a2]), (2, .fn 40 [.ip [I a3]]), (3, .fn 41 [.ptr 0 0]), (13, I e_14679.2), (14, sl 3 cs_Amount a1), (15, I (a1.length : Int)), (16, I s_14617.2), (37, B (e_14679.2 != 0))], [(0, ⟨31, 0, (cs_Ratio e_14679.1)⟩)], 1⟩ (by kernel_rfl) (leB rfl) ?_
          refine w_ite h (by kernel_rfl) (fun h_14685 h => ?_) (fun h_14685 h => ?_)
          · refine w_reg ⟨[(8, I e_14679.2)], [(0, ⟨31, 0, (cs_Ratio e_14679.1)⟩)], 1⟩ (by kernel_rfl) (leB rfl) ?_
            refine w_ret ?_
            obtain rfl := ((h_14481 _ (h_14618 _ (Option.some.inj h).symm).symm).symm).symm
            exact ret_leaf (.inl rfl) ⟨[(8, I e_14679.2)], [(0, ⟨31, 0, (cs_Ratio e_14679.1)⟩)], 1⟩ (to_ren [] (leB rfl) (by kernel_rfl) (by kernel_rfl) (renE_of (by kernel_rfl) (by kernel_rfl)) ⟨reRn (by kernel_rfl) (leB rfl) (by kernel_rfl), trivial⟩) [I e_14679.2] (by kernel_rfl) (by kernel_rfl) (leB rfl) (by kernel_rfl) ⟨⟨by kernel_rfl, leB rfl, (by kernel_rfl)⟩, trivial⟩
          · refine w_skip ?_
            refine hK_14654 _ ⟨[(1, .bm 35 [sl 5 cs_Unit a2]), (2, .fn 40 [.ip [I a3]]), (3, .fn 41 [.ptr 0 0]), (14, sl 3 cs_Amount a1), (15, I (a1.length : Int)), (16, I s_14617.2)], [(0, ⟨31, 0, (cs_Ratio e_14679.1)⟩)], 1⟩ (to_trim (by kernel_rfl) (leB rfl)) ?_
            refine w_reg0 ?_
            refine dd_run 0 2 rfl (by kernel_rfl) ?_
            refine dd_nil 2 rfl ?_
            exact hK_14619 _ _ (Option.some.inj h).symm (to_ren [] (leB rfl) (by kernel_rfl) (by kernel_rfl) (renE_of (by kernel_rfl) (by kernel_rfl)) ⟨reRn (by kernel_rfl) (leB rfl) (by kernel_rfl), trivial⟩)
      · refine w_exit ?_
        exact hK_14482 _ _ (h_14618 _ (Option.some.inj h).symm).symm (to_ren [] (leB rfl) (by kernel_rfl) (by kernel_rfl) (renE_of (by kernel_rfl) (by kernel_rfl)) ⟨reRn (by kernel_rfl) (leB rfl) (by kernel_rfl), trivial⟩)
  · refine w_reg ⟨[(8, I 0)], [(0, ⟨31, 0, (cs_Ratio e_14480)⟩)], 1⟩ (by kernel_rfl) (leB rfl) ?_
    refine w_ret ?_
    obtain rfl := ((Option.some.inj h).symm).symm
    exact ret_leaf (.inl rfl) ⟨[(8, I 0)], [(0, ⟨31, 0, (cs_Ratio e_14480)⟩)], 1⟩ (to_ren [] (leB rfl) (by kernel_rfl) (by kernel_rfl) (renE_of (by kernel_rfl) (by kernel_rfl)) ⟨reRn (by kernel_rfl) (leB rfl) (by kernel_rfl), trivial⟩) [I 0] (by kernel_rfl) (by kernel_rfl) (leB rfl) (by kernel_rfl) ⟨⟨by kernel_rfl, leB rfl, (by kernel_rfl)⟩, trivial⟩
/-- estoppel/quantity.Sum -/
def g_quantity_Sum (a1 : List D.Unit) (a2 : List D.Amount) (a3 : Int) : Option (D.Amount × Int) :=
  (g_estoppel_quantity_table_at a1 a3).bind fun x_14697 =>
  bindF (ρ := Bool) (
  if (!x_14697.2) = true then
  some (.inl true)
  else
  (g_estoppel_quantity_table_all a1 a2).bind fun x_14706 =>
  some (.inl (!x_14706))) (fun (e_14702 : Bool) =>
  if e_14702 = true then
  some ((D.Amount.mk 0 (D.Ratio.mk 0 0)), 1)
  else
  bindF (ρ := Unit) (
  loopO (σ := Int) (fun s_14990 =>
  if (decide (s_14990 < (a2.length : Int))) = true then
  (getI a2 s_14990).bind fun x_15031 =>
  (getI a1 x_15031.Unit).bind fun x_15044 =>
  if (x_15044.Base != x_14697.1.Base) = true then
  some (.inr (.inr ((D.Amount.mk 0 (D.Ratio.mk 0 0)), 11)))
  else
  some (.inl (IntKind.i64.wrap (s_14990 + 1)))
  else
  some (.inr (.inl ()))) 0) (fun (e_14877 : Unit) =>
  (g_quantity_gather_value_Sum_1_Sum_2 a2 a1 a3 (D.Ratio.mk 0 1)).bind fun x_15050 =>
  if (x_15050.2 != 0) = true then
  some ((D.Amount.mk 0 (D.Ratio.mk 0 0)), x_15050.2)
  else
  some ((D.Amount.mk a3 x_15050.1), 0)))
set_option maxHeartbeats 4000000 in
theorem g_quantity_Sum_ok {a1 : List D.Unit} {a2 : List D.Amount} {a3 : Int} {res : D.Amount × Int} (h : g_quantity_Sum a1 a2 a3 = some res) : SpecK Tryd.prog [] 19 [sl 5 cs_Unit a1, sl 3 cs_Amount a2, I a3] [] 0 (.tup [.agg (cs_Amount res.1), I res.2]) [] 0 := by
  refine ⟨spec_of_wp Tryd.func19 (by kernel_rfl) rfl Tryd.ntmps19 (by rw [Tryd.results19]) (leB rfl) ?_, by kernel_rfl, trivial, by kernel_rfl, trivial, by kernel_rfl⟩
  unfold g_quantity_Sum at h
  refine w_reg ⟨[(0, sl 5 cs_Unit a1), (1, sl 3 cs_Amount a2), (5, .ip [I a3]), (6, .ptr 0 0)], [(0, ⟨33, 0, [I 0, I 0, I 0]⟩)], 1⟩ (by kernel_rfl) (leB rfl) ?_
  refine w_reg ⟨[(1, sl 3 cs_Amount a2), (5, .ip [I a3]), (6, .ptr 0 0), (8, sl 5 cs_Unit a1)], [(0, ⟨33, 0, [I 0, I 0, I 0]⟩)], 1⟩ (by kernel_rfl) (leB rfl) ?_
  refine w_seq (fun K hK_14696 => w_reg0 ?_)
  refine dd_run 0 2 rfl (by kernel_rfl) ?_
  obtain ⟨x_14697, h_14698, h⟩ := bind_some' h
  refine dd_one 2 (.call ⟨.value (.func 33), #[(.tmp 17), (.tmp 18)], #[55, 3]⟩) (some 19) (by kernel_rfl) (o_callP (g_estoppel_quantity_table_at_ok h_14698) (by kernel_rfl) rfl) ?_
  refine ops_fin' hK_14696 ⟨[(1, sl 3 cs_Amount a2), (5, .ip [I a3]), (6, .ptr 0 0), (8, sl 5 cs_Unit a1), (9, .ptr 1 0), (10, B x_14697.2)], [(1, ⟨42, 0, (cs_Unit x_14697.1)⟩), (0, ⟨33, 0, [I 0, I 0, I 0]⟩)], 2⟩ (by kernel_rfl) (leB rfl) ?_
  refine w_assoc ?_
  refine w_cut h (fun (e_14702 : Bool) => ⟨[(1, sl 3 cs_Amount a2), (5, .ip [I a3]), (6, .ptr 0 0), (8, sl 5 cs_Unit a1), (9, .ptr 1 0), (29, B e_14702)], [(0, ⟨33, 0, [I 0, I 0, I 0]⟩), (1, ⟨42, 0, (cs_Unit x_14697.1)⟩)], 2⟩) (fun o h h_14703 K hK_14704 => ?_) (fun e_14702 h => ?_)
  · refine w_reg0 ?_
    refine dd_run 0 3 rfl (by kernel_rfl) ?_
    refine ite_both h (fun h_14705 h => ?_) (fun h_14705 h => ?_)
    · refine dd_skip 3 7 2 false rfl (b := (!x_14697.2)) (by kernel_rfl) h_14705 (by kernel_rfl) ?_
      refine dd_one 7 (.pick (.tmp 24) (.const (.bool true)) (.tmp 28)) (some 29) (by kernel_rfl) (o_pure (B true) (ev_pickT h_14705 (by kernel_rfl) (by kernel_rfl)) rfl) ?_
      refine dd_nil 8 rfl ?_
      exact hK_14704 _ _ (Option.some.inj h).symm (to_ren [] (leB rfl) (by kernel_rfl) (by kernel_rfl) (renE_of (by kernel_rfl) (by kernel_rfl)) ⟨reRn (by kernel_rfl) (leB rfl) (by kernel_rfl), ⟨reRn (by kernel_rfl) (leB rfl) (by kernel_rfl), trivial⟩⟩)
    · refine dd_runG 3 5 2 false rfl (b := (!x_14697.2)) (by kernel_rfl) h_14705 (by kernel_rfl) ?_
      obtain ⟨x_14706, h_14707, h⟩ := bind_some' h
      refine dd_oneG 5 (.call ⟨.value (.func 38), #[(.tmp 25), (.tmp 26)], #[55, 23]⟩) (some 27) 2 false (b := (!x_14697.2)) (by kernel_rfl) (by kernel_rfl) h_14705 (o_callP (g_estoppel_quantity_table_all_ok h_14707) (by kernel_rfl) rfl) ?_
      refine dd_runG 6 7 2 false rfl (b := (!x_14697.2)) (by kernel_rfl) h_14705 (by kernel_rfl) ?_
      refine dd_one 7 (.pick (.tmp 24) (.const (.bool true)) (.tmp 28)) (some 29) (by kernel_rfl) (o_pure (B (!x_14706)) (ev_pickF h_14705 (by kernel_rfl) (by kernel_rfl)) rfl) ?_
      refine dd_nil 8 rfl ?_
      exact hK_14704 _ _ (Option.some.inj h).symm (to_ren [] (leB rfl) (by kernel_rfl) (by kernel_rfl) (renE_of (by kernel_rfl) (by kernel_rfl)) ⟨reRn (by kernel_rfl) (leB rfl) (by kernel_rfl), ⟨reRn (by kernel_rfl) (leB rfl) (by kernel_rfl), trivial⟩⟩)
  · refine w_seq (fun K hK_14709 => ?_)
    refine w_ite h (by kernel_rfl) (fun h_14710 h => ?_) (fun h_14710 h => ?_)
    · refine w_reg ⟨[(6, .ptr 0 0), (7, I 1)], [(0, ⟨33, 0, [I 0, I 0, I 0]⟩), (1, ⟨42, 0, (cs_Unit x_14697.1)⟩)], 2⟩ (by kernel_rfl) (leB rfl) ?_
      refine w_ret ?_
      obtain rfl := ((Option.some.inj h).symm).symm
      exact ret_leaf (.inl rfl) ⟨[(6, .ptr 0 0), (7, I 1)], [(0, ⟨33, 0, (cs_Amount (D.Amount.mk 0 (D.Ratio.mk 0 0)))⟩)], 1⟩ (to_ren [] (leB rfl) (by kernel_rfl) (by kernel_rfl) (renE_of (by kernel_rfl) (by kernel_rfl)) ⟨reRn (by kernel_rfl) (leB rfl) (by kernel_rfl), trivial⟩) [.agg (cs_Amount (D.Amount.mk 0 (D.Ratio.mk 0 0))), I 1] (by kernel_rfl) (by kernel_rfl) (leB rfl) (by kernel_rfl) trivial
    · refine w_skip ?_
      refine hK_14709 _ ⟨[(1, sl 3 cs_Amount a2), (5, .ip [I a3]), (6, .ptr 0 0), (8, sl 5 cs_Unit a1), (9, .ptr 1 0)], [(0, ⟨33, 0, [I 0, I 0, I 0]⟩), (1, ⟨42, 0, (cs_Unit x_14697.1)⟩)], 2⟩ (to_trim (by kernel_rfl) (leB rfl)) ?_
      refine w_assoc ?_
      refine w_seq (fun K hK_14711 => w_reg0 ?_)
      refine dd_run 0 1 rfl (by kernel_rfl) ?_
      refine dd_one 1 (.call ⟨.builtin .len, #[(.tmp 31)], #[23]⟩) (some 32) (by kernel_rfl) (o_pure (I (a2.length : Int)) (ev_len_sl (e := 33) (ty := 0) (k := 3) (c := cs_Amount) (by kernel_rfl) (by kernel_rfl)) rfl) ?_
      refine ops_fin' hK_14711 ⟨[(1, sl 3 cs_Amount a2), (5, .ip [I a3]), (6, .ptr 0 0), (8, sl 5 cs_Unit a1), (9, .ptr 1 0), (31, sl 3 cs_Amount a2), (32, I (a2.length : Int)), (33, I 0)], [(0, ⟨33, 0, [I 0, I 0, I 0]⟩), (1, ⟨42, 0, (cs_Unit x_14697.1)⟩)], 2⟩ (by kernel_rfl) (leB rfl) ?_
      refine w_cut h (fun (e_14877 : Unit) => ⟨[(1, sl 3 cs_Amount a2), (5, .ip [I a3]), (6, .ptr 0 0), (8, sl 5 cs_Unit a1)], [(0, ⟨33, 0, [I 0, I 0, I 0]⟩)], 1⟩) (fun o h h_14878 K hK_14879 => ?_) (fun e_14877 h => ?_)
      · refine w_block ?_
        refine w_loopO h (fun (s_14990 : Int) => ⟨[(1, sl 3 cs_Amount a2), (5, .ip [I a3]), (6, .ptr 0 0), (8, sl 5 cs_Unit a1), (9, .ptr 1 0), (31, sl 3 cs_Amount a2), (32, I (a2.length : Int)), (33, I s_14990)], [(0, ⟨33, 0, [I 0, I 0, I 0]⟩), (1, ⟨42, 0, (cs_Unit x_14697.1)⟩)], 2⟩) (to_ren [] (leB rfl) (by kernel_rfl) (by kernel_rfl) (renE_of (by kernel_rfl) (by kernel_rfl)) ⟨reRn (by kernel_rfl) (leB rfl) (by kernel_rfl), ⟨reRn (by kernel_rfl) (leB rfl) (by kernel_rfl), trivial⟩⟩) (fun s_14990 o h h_14991 K hK_14992 => ?_)
        · refine w_reg ⟨[(1, sl 3 cs_Amount a2), (5, .ip [I a3]), (6, .ptr 0 0), (8, sl 5 cs_Unit a1), (9, .ptr 1 0), (31, sl 3 cs_Amount a2), (32, I (a2.length : Int)), (33, I s_14990), (34, B (decide (s_14990 < (a2.length : Int))))], [(0, ⟨33, 0, [I 0, I 0, I 0]⟩), (1, ⟨42, 0, (cs_Unit x_14697.1)⟩)], 2⟩ (by kernel_rfl) (leB rfl) ?_
          refine w_seq (fun K hK_14994 => ?_)
          refine w_ite h (by kernel_rfl) (fun h_14995 h => ?_) (fun h_14995 h => ?_)
          · refine w_skip ?_
            refine hK_14994 _ ⟨[(1, sl 3 cs_Amount a2), (5, .ip [I a3]), (6, .ptr 0 0), (8, sl 5 cs_Unit a1), (9, .ptr 1 0), (31, sl 3 cs_Amount a2), (32, I (a2.length : Int)), (33, I s_14990)], [(0, ⟨33, 0, [I 0, I 0, I 0]⟩), (1, ⟨42, 0, (cs_Unit x_14697.1)⟩)], 2⟩ (to_trim (by kernel_rfl) (leB rfl)) ?_
            refine w_seq (fun K hK_15021 => ?_)
            refine w_block ?_
            refine w_seq (fun K hK_15028 => w_reg0 ?_)
            obtain ⟨x_15031, h_15032, h⟩ := bind_some' h
            refine dd_one 0 (.indexAddr 23 (.tmp 31) (.tmp 33)) (some 35) (by kernel_rfl) (o_pure (.ip (cs_Amount x_15031)) (ev_idx_sl (e := 33) (k := 3) (c := cs_Amount) (ik := .i64) h_15032 (by kernel_rfl) (by kernel_rfl) (by kernel_rfl) (by kernel_rfl)) rfl) ?_
            refine ops_fin' hK_15028 ⟨[(1, sl 3 cs_Amount a2), (5, .ip [I a3]), (6, .ptr 0 0), (8, sl 5 cs_Unit a1), (9, .ptr 1 0), (12, .ptr 2 0), (31, sl 3 cs_Amount a2), (32, I (a2.length : Int)), (33, I s_14990)], [(2, ⟨33, 0, (cs_Amount x_15031)⟩), (0, ⟨33, 0, [I 0, I 0, I 0]⟩), (1, ⟨42, 0, (cs_Unit x_14697.1)⟩)], 3⟩ (by kernel_rfl) (leB rfl) ?_
            refine w_seq (fun K hK_15041 => w_mix0 (by kernel_rfl) (by kernel_rfl) ?_)
            refine mm_run 0 3 rfl (by kernel_rfl) ?_
            obtain ⟨x_15044, h_15045, h⟩ := bind_some' h
            refine mm_one 3 (.indexAddr 55 (.tmp 37) (.tmp 39)) (some 40) (by kernel_rfl) (by kernel_rfl) (oH_pure (.ip (cs_Unit x_15044)) (ev_idx_sl (e := 42) (k := 5) (c := cs_Unit) (ik := .i64) h_15045 (by kernel_rfl) (by kernel_rfl) (by kernel_rfl) (by kernel_rfl)) rfl) ?_
            refine mix_fin' hK_15041 ⟨[(1, sl 3 cs_Amount a2), (5, .ip [I a3]), (6, .ptr 0 0), (8, sl 5 cs_Unit a1), (9, .ptr 1 0), (31, sl 3 cs_Amount a2), (32, I (a2.length : Int)), (33, I s_14990), (45, B (x_15044.Base != x_14697.1.Base))], [(2, ⟨33, 0, (cs_Amount x_15031)⟩), (0, ⟨33, 0, [I 0, I 0, I 0]⟩), (1, ⟨42, 0, (cs_Unit x_14697.1)⟩)], 3⟩ (by kernel_rfl) (leB rfl) ?_
            refine w_ite h (by kernel_rfl) (fun h_15046 h => ?_) (fun h_15046 h => ?_)
            · refine w_reg ⟨[(6, .ptr 0 0), (7, I 11)], [(2, ⟨33, 0, (cs_Amount x_15031)⟩), (0, ⟨33, 0, [I 0, I 0, I 0]⟩), (1, ⟨42, 0, (cs_Unit x_14697.1)⟩)], 3⟩ (by kernel_rfl) (leB rfl) ?_
              refine w_ret ?_
              obtain rfl := ((h_14878 _ (h_14991 _ (Option.some.inj h).symm).symm).symm).symm
              exact ret_leaf (.inl rfl) ⟨[(6, .ptr 0 0), (7, I 11)], [(0, ⟨33, 0, (cs_Amount (D.Amount.mk 0 (D.Ratio.mk 0 0)))⟩)], 1⟩ (to_ren [] (leB rfl) (by kernel_rfl) (by kernel_rfl) (renE_of (by kernel_rfl) (by kernel_rfl)) ⟨reRn (by kernel_rfl) (leB rfl) (by kernel_rfl), trivial⟩) [.agg (cs_Amount (D.Amount.mk 0 (D.Ratio.mk 0 0))), I 11] (by kernel_rfl) (by kernel_rfl) (leB rfl) (by kernel_rfl) trivial
            · refine w_skip ?_
              refine hK_15021 _ ⟨[(1, sl 3 cs_Amount a2), (5, .ip [I a3]), (6, .ptr 0 0), (8, sl 5 cs_Unit a1), (9, .ptr 1 0), (31, sl 3 cs_Amount a2), (32, I (a2.length : Int)), (33, I s_14990)], [(2, ⟨33, 0, (cs_Amount x_15031)⟩), (0, ⟨33, 0, [I 0, I 0, I 0]⟩), (1, ⟨42, 0, (cs_Unit x_14697.1)⟩)], 3⟩ (to_trim (by kernel_rfl) (leB rfl)) ?_
              refine w_reg0 ?_
              refine dd_run 0 2 rfl (by kernel_rfl) ?_
              refine dd_nil 2 rfl ?_
              exact hK_14992 _ _ (Option.some.inj h).symm (to_ren [] (leB rfl) (by kernel_rfl) (by kernel_rfl) (renE_of (by kernel_rfl) (by kernel_rfl)) ⟨reRn (by kernel_rfl) (leB rfl) (by kernel_rfl), ⟨reRn (by kernel_rfl) (leB rfl) (by kernel_rfl), trivial⟩⟩)
          · refine w_exit ?_
            exact hK_14879 _ _ (h_14991 _ (Option.some.inj h).symm).symm (to_ren [] (leB rfl) (by kernel_rfl) (by kernel_rfl) (renE_of (by kernel_rfl) (by kernel_rfl)) ⟨reRn (by kernel_rfl) (leB rfl) (by kernel_rfl), trivial⟩)
      · refine w_reg ⟨[(1, sl 3 cs_Amount a2), (5, .ip [I a3]), (6, .ptr 0 0), (8, sl 5 cs_Unit a1), (13, .ptr 1 0)], [(1, ⟨31, 0, [I 0, I 1]⟩), (0, ⟨33, 0, [I 0, I 0, I 0]⟩)], 2⟩ (by kernel_rfl) (leB rfl) ?_
        refine w_seq (fun K hK_15049 => w_reg0 ?_)
        refine dd_run 0 5 rfl (by kernel_rfl) ?_
        obtain ⟨x_15050, h_15051, h⟩ := bind_some' h
        refine dd_one 5 (.call ⟨.value (.func 39), #[(.tmp 49), (.tmp 51), (.tmp 52), (.tmp 53)], #[23, 62, 67, 68]⟩) (some 54) (by kernel_rfl) (o_callE [1] (g_quantity_gather_value_Sum_1_Sum_2_ok h_15051) (by kernel_rfl) (by kernel_rfl) (by kernel_rfl) rfl) ?_
        refine ops_fin' hK_15049 ⟨[(5, .ip [I a3]), (6, .ptr 0 0), (13, .ptr 1 0), (14, I x_15050.2)], [(1, ⟨31, 0, (cs_Ratio x_15050.1)⟩), (0, ⟨33, 0, [I 0, I 0, I 0]⟩)], 2⟩ (by kernel_rfl) (leB rfl) ?_
        refine w_assoc ?_
        refine w_reg ⟨[(5, .ip [I a3]), (6, .ptr 0 0), (13, .ptr 1 0), (14, I x_15050.2), (56, B (x_15050.2 != 0))], [(1, ⟨31, 0, (cs_Ratio x_15050.1)⟩), (0, ⟨33, 0, [I 0, I 0, I 0]⟩)], 2⟩ (by kernel_rfl) (leB rfl) ?_
        refine w_seq (fun K hK_15053 => ?_)
        refine w_ite h (by kernel_rfl) (fun h_15054 h => ?_) (fun h_15054 h => ?_)
        · refine w_reg ⟨[(6, .ptr 0 0), (7, I x_15050.2)], [(1, ⟨31, 0, (cs_Ratio x_15050.1)⟩), (0, ⟨33, 0, [I 0, I 0, I 0]⟩)], 2⟩ (by kernel_rfl) (leB rfl) ?_
          refine w_ret ?_
          obtain rfl := ((Option.some.inj h).symm).symm
          exact ret_leaf (.inl rfl) ⟨[(6, .ptr 0 0), (7, I x_15050.2)], [(0, ⟨33, 0, (cs_Amount (D.Amount.mk 0 (D.Ratio.mk 0 0)))⟩)], 1⟩ (to_ren [] (leB rfl) (by kernel_rfl) (by kernel_rfl) (renE_of (by kernel_rfl) (by kernel_rfl)) ⟨reRn (by kernel_rfl) (leB rfl) (by kernel_rfl), trivial⟩) [.agg (cs_Amount (D.Amount.mk 0 (D.Ratio.mk 0 0))), I x_15050.2] (by kernel_rfl) (by kernel_rfl) (leB rfl) (by kernel_rfl) trivial
        · refine w_skip ?_
          refine hK_15053 _ ⟨[(5, .ip [I a3]), (6, .ptr 0 0), (13, .ptr 1 0)], [(1, ⟨31, 0, (cs_Ratio x_15050.1)⟩), (0, ⟨33, 0, [I 0, I 0, I 0]⟩)], 2⟩ (to_trim (by kernel_rfl) (leB rfl)) ?_
          refine w_reg ⟨[(6, .ptr 0 0), (7, I 0)], [(1, ⟨31, 0, (cs_Ratio x_15050.1)⟩), (0, ⟨33, 0, ([I a3] ++ (cs_Ratio x_15050.1))⟩)], 2⟩ (by kernel_rfl) (leB rfl) ?_
          refine w_ret ?_
          obtain rfl := ((Option.some.inj h).symm).symm
          exact ret_leaf (.inl rfl) ⟨[(6, .ptr 0 0), (7, I 0)], [(0, ⟨33, 0, (cs_Amount (D.Amount.mk a3 x_15050.1))⟩)], 1⟩ (to_ren [] (leB rfl) (by kernel_rfl) (by kernel_rfl) (renE_of (by kernel_rfl) (by kernel_rfl)) ⟨reRn (by kernel_rfl) (leB rfl) (by kernel_rfl), trivial⟩) [.agg (cs_Amount (D.Amount.mk a3 x_15050.1)), I 0] (by kernel_rfl) (by kernel_rfl) (leB rfl) (by kernel_rfl) trivial
end Go.Proofs.YtdfokoapenhalaaDoor.Ab
