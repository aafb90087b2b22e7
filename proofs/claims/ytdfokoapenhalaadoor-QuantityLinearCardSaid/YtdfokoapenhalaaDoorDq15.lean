/- Functions of the program as plain functions (printed by wip/dec.py). -/
import Derived.Test.YtdfokoapenhalaaDoorDq6
import Derived.Test.YtdfokoapenhalaaDoorDq13
import Derived.Test.YtdfokoapenhalaaDoorDq14
namespace Go.Proofs.YtdfokoapenhalaaDoor.Ab
open Go Go.RowKit Go.Shelf
/-- estoppel/quantity.Sum -/
def g_quantity_Sum_o (a1 : List D.Unit) (a2 : List D.Amount) (a3 : Int) : Option (D.Amount × Int) :=
  (g_estoppel_quantity_table_at_o a1 a3).bind fun x_41760 =>
  bindF (ρ := Bool) (
  if (!x_41760.2) = true then
  some (.inl true)
  else
  (g_estoppel_quantity_table_all_o a1 a2).bind fun x_41769 =>
  some (.inl (!x_41769))) (fun (e_41765 : Bool) =>
  if e_41765 = true then
  some ((D.Amount.mk 0 (D.Ratio.mk 0 0)), 1)
  else
  bindF (ρ := Unit) (
  loopO (σ := Int) (fun s_42053 =>
  if (decide (s_42053 < (a2.length : Int))) = true then
  (getI a2 s_42053).bind fun x_42094 =>
  (getI a1 x_42094.Unit).bind fun x_42107 =>
  if (x_42107.Base != x_41760.1.Base) = true then
  some (.inr (.inr ((D.Amount.mk 0 (D.Ratio.mk 0 0)), 11)))
  else
  some (.inl (IntKind.i64.wrap (s_42053 + 1)))
  else
  some (.inr (.inl ()))) 0) (fun (e_41940 : Unit) =>
  (g_quantity_gather_value_Sum_1_Sum_2_v2 a2 a1 a3 (D.Ratio.mk 0 1)).bind fun x_42113 =>
  if (x_42113.2 != 0) = true then
  some ((D.Amount.mk 0 (D.Ratio.mk 0 0)), x_42113.2)
  else
  some ((D.Amount.mk a3 x_42113.1), 0)))
set_option maxHeartbeats 4000000 in
theorem g_quantity_Sum_o_ok {a1 : List D.Unit} {a2 : List D.Amount} {a3 : Int} {res : D.Amount × Int} (h : g_quantity_Sum_o a1 a2 a3 = some res) : SpecK Tryd.prog [0] 19 [.own 0 a1.length, sl 3 cs_Amount a2, I a3] [(0, ⟨42, 5, flat cs_Unit a1⟩)] 1 (.tup [.agg (cs_Amount res.1), I res.2]) [(0, ⟨42, 5, flat cs_Unit a1⟩)] 1 := by
  refine ⟨spec_of_wp Tryd.func19 (by kernel_rfl) rfl Tryd.ntmps19 (by rw [Tryd.results19]) (leB rfl) ?_, by kernel_rfl, ⟨⟨leB rfl, flat_all (AV.keyed 0 4) (fun _ => rfl) _⟩, trivial⟩, by kernel_rfl, ⟨⟨leB rfl, flat_all (AV.keyed 0 4) (fun _ => rfl) _⟩, trivial⟩, by kernel_rfl⟩
  unfold g_quantity_Sum_o at h
  refine w_reg ⟨[(0, .own 0 a1.length), (1, sl 3 cs_Amount a2), (5, .ip [I a3]), (6, .ptr 1 0)], [(1, ⟨33, 0, [I 0, I 0, I 0]⟩), (0, ⟨42, 5, flat cs_Unit a1⟩)], 2⟩ (by kernel_rfl) (leB rfl) ?_
  refine w_reg ⟨[(1, sl 3 cs_Amount a2), (5, .ip [I a3]), (6, .ptr 1 0), (8, .own 0 a1.length)], [(1, ⟨33, 0, [I 0, I 0, I 0]⟩), (0, ⟨42, 5, flat cs_Unit a1⟩)], 2⟩ (by kernel_rfl) (leB rfl) ?_
  refine w_seq (fun K hK_41759 => w_reg0 ?_)
  refine dd_run 0 2 rfl (by kernel_rfl) ?_
  obtain ⟨x_41760, h_41761, h⟩ := bind_some' h
  refine dd_one 2 (.call ⟨.value (.func 33), #[(.tmp 17), (.tmp 18)], #[55, 3]⟩) (some 19) (by kernel_rfl) (o_callE [0] (g_estoppel_quantity_table_at_o_ok h_41761) (by kernel_rfl) (by kernel_rfl) (by kernel_rfl) rfl) ?_
  refine ops_fin' hK_41759 ⟨[(1, sl 3 cs_Amount a2), (5, .ip [I a3]), (6, .ptr 1 0), (8, .own 0 a1.length), (9, .ptr 2 0), (10, B x_41760.2)], [(2, ⟨42, 0, (cs_Unit x_41760.1)⟩), (0, ⟨42, 5, flat cs_Unit a1⟩), (1, ⟨33, 0, [I 0, I 0, I 0]⟩)], 3⟩ (by kernel_rfl) (leB rfl) ?_
  refine w_assoc ?_
  refine w_cut h (fun (e_41765 : Bool) => ⟨[(1, sl 3 cs_Amount a2), (5, .ip [I a3]), (6, .ptr 1 0), (8, .own 0 a1.length), (9, .ptr 2 0), (29, B e_41765)], [(0, ⟨42, 5, flat cs_Unit a1⟩), (1, ⟨33, 0, [I 0, I 0, I 0]⟩), (2, ⟨42, 0, (cs_Unit x_41760.1)⟩)], 3⟩) (fun o h h_41766 K hK_41767 => ?_) (fun e_41765 h => ?_)
  · refine w_reg0 ?_
    refine dd_run 0 3 rfl (by kernel_rfl) ?_
    refine ite_both h (fun h_41768 h => ?_) (fun h_41768 h => ?_)
    · refine dd_skip 3 7 2 false rfl (b := (!x_41760.2)) (by kernel_rfl) h_41768 (by kernel_rfl) ?_
      refine dd_one 7 (.pick (.tmp 24) (.const (.bool true)) (.tmp 28)) (some 29) (by kernel_rfl) (o_pure (B true) (ev_pickT h_41768 (by kernel_rfl) (by kernel_rfl)) rfl) ?_
      refine dd_nil 8 rfl ?_
      exact hK_41767 _ _ (Option.some.inj h).symm (to_ren [] (leB rfl) (by kernel_rfl) (by kernel_rfl) (renE_of (by kernel_rfl) (by kernel_rfl)) ⟨rePl (by kernel_rfl) (leB rfl) (flat_all _ (fun _ => rfl) _), ⟨reRn (by kernel_rfl) (leB rfl) (by kernel_rfl), ⟨reRn (by kernel_rfl) (leB rfl) (by kernel_rfl), trivial⟩⟩⟩)
    · refine dd_runG 3 5 2 false rfl (b := (!x_41760.2)) (by kernel_rfl) h_41768 (by kernel_rfl) ?_
      obtain ⟨x_41769, h_41770, h⟩ := bind_some' h
      refine dd_oneG 5 (.call ⟨.value (.func 38), #[(.tmp 25), (.tmp 26)], #[55, 23]⟩) (some 27) 2 false (b := (!x_41760.2)) (by kernel_rfl) (by kernel_rfl) h_41768 (o_callE [0] (g_estoppel_quantity_table_all_o_ok h_41770) (by kernel_rfl) (by kernel_rfl) (by kernel_rfl) rfl) ?_
      refine dd_runG 6 7 2 false rfl (b := (!x_41760.2)) (by kernel_rfl) h_41768 (by kernel_rfl) ?_
      refine dd_one 7 (.pick (.tmp 24) (.const (.bool true)) (.tmp 28)) (some 29) (by kernel_rfl) (o_pure (B (!x_41769)) (ev_pickF h_41768 (by kernel_rfl) (by kernel_rfl)) rfl) ?_
      refine dd_nil 8 rfl ?_
      exact hK_41767 _ _ (Option.some.inj h).symm (to_ren [] (leB rfl) (by kernel_rfl) (by kernel_rfl) (renE_of (by kernel_rfl) (by kernel_rfl)) ⟨rePl (by kernel_rfl) (leB rfl) (flat_all _ (fun _ => rfl) _), ⟨reRn (by kernel_rfl) (leB rfl) (by kernel_rfl), ⟨reRn (by kernel_rfl) (leB rfl) (by kernel_rfl), trivial⟩⟩⟩)
  · refine w_seq (fun K hK_41772 => ?_)
    refine w_ite h (by kernel_rfl) (fun h_41773 h => ?_) (fun h_41773 h => ?_)
    · refine w_reg ⟨[(6, .ptr 1 0), (7, I 1)], [(0, ⟨42, 5, flat cs_Unit a1⟩), (1, ⟨33, 0, [I 0, I 0, I 0]⟩), (2, ⟨42, 0, (cs_Unit x_41760.1)⟩)], 3⟩ (by kernel_rfl) (leB rfl) ?_
      refine w_ret ?_
      obtain rfl := ((Option.some.inj h).symm).symm
      exact ret_leaf (.inl rfl) ⟨[(6, .ptr 1 0), (7, I 1)], [(0, ⟨42, 5, flat cs_Unit a1⟩), (1, ⟨33, 0, (cs_Amount (D.Amount.mk 0 (D.Ratio.mk 0 0)))⟩)], 2⟩ (to_ren [] (leB rfl) (by kernel_rfl) (by kernel_rfl) (renE_of (by kernel_rfl) (by kernel_rfl)) ⟨rePl (by kernel_rfl) (leB rfl) (flat_all _ (fun _ => rfl) _), ⟨reRn (by kernel_rfl) (leB rfl) (by kernel_rfl), trivial⟩⟩) [.agg (cs_Amount (D.Amount.mk 0 (D.Ratio.mk 0 0))), I 1] (by kernel_rfl) (by kernel_rfl) (leB rfl) (by kernel_rfl) ⟨⟨by kernel_rfl, leB rfl, (flat_all _ (fun _ => rfl) _)⟩, trivial⟩
    · refine w_skip ?_
      refine hK_41772 _ ⟨[(1, sl 3 cs_Amount a2), (5, .ip [I a3]), (6, .ptr 1 0), (8, .own 0 a1.length), (9, .ptr 2 0)], [(0, ⟨42, 5, flat cs_Unit a1⟩), (1, ⟨33, 0, [I 0, I 0, I 0]⟩), (2, ⟨42, 0, (cs_Unit x_41760.1)⟩)], 3⟩ (to_trim (by kernel_rfl) (leB rfl)) ?_
      refine w_assoc ?_
      refine w_seq (fun K hK_41774 => w_reg0 ?_)
      refine dd_run 0 1 rfl (by kernel_rfl) ?_
      refine dd_one 1 (.call ⟨.builtin .len, #[(.tmp 31)], #[23]⟩) (some 32) (by kernel_rfl) (o_pure (I (a2.length : Int)) (ev_len_sl (e := 33) (ty := 0) (k := 3) (c := cs_Amount) (by kernel_rfl) (by kernel_rfl)) rfl) ?_
      refine ops_fin' hK_41774 ⟨[(1, sl 3 cs_Amount a2), (5, .ip [I a3]), (6, .ptr 1 0), (8, .own 0 a1.length), (9, .ptr 2 0), (31, sl 3 cs_Amount a2), (32, I (a2.length : Int)), (33, I 0)], [(0, ⟨42, 5, flat cs_Unit a1⟩), (1, ⟨33, 0, [I 0, I 0, I 0]⟩), (2, ⟨42, 0, (cs_Unit x_41760.1)⟩)], 3⟩ (by kernel_rfl) (leB rfl) ?_
      refine w_cut h (fun (e_41940 : Unit) => ⟨[(1, sl 3 cs_Amount a2), (5, .ip [I a3]), (6, .ptr 1 0), (8, .own 0 a1.length)], [(0, ⟨42, 5, flat cs_Unit a1⟩), (1, ⟨33, 0, [I 0, I 0, I 0]⟩)], 2⟩) (fun o h h_41941 K hK_41942 => ?_) (fun e_41940 h => ?_)
      · refine w_block ?_
        refine w_loopO h (fun (s_42053 : Int) => ⟨[(1, sl 3 cs_Amount a2), (5, .ip [I a3]), (6, .ptr 1 0), (8, .own 0 a1.length), (9, .ptr 2 0), (31, sl 3 cs_Amount a2), (32, I (a2.length : Int)), (33, I s_42053)], [(0, ⟨42, 5, flat cs_Unit a1⟩), (1, ⟨33, 0, [I 0, I 0, I 0]⟩), (2, ⟨42, 0, (cs_Unit x_41760.1)⟩)], 3⟩) (to_ren [] (leB rfl) (by kernel_rfl) (by kernel_rfl) (renE_of (by kernel_rfl) (by kernel_rfl)) ⟨rePl (by kernel_rfl) (leB rfl) (flat_all _ (fun _ => rfl) _), ⟨reRn (by kernel_rfl) (leB rfl) (by kernel_rfl), ⟨reRn (by kernel_rfl) (leB rfl) (by kernel_rfl), trivial⟩⟩⟩) (fun s_42053 o h h_42054 K hK_42055 => ?_)
        · refine w_reg ⟨[(1, sl 3 cs_Amount a2), (5, .ip [I a3]), (6, .ptr 1 0), (8, .own 0 a1.length), (9, .ptr 2 0), (31, sl 3 cs_Amount a2), (32, I (a2.length : Int)), (33, I s_42053), (34, B (decide (s_42053 < (a2.length : Int))))], [(0, ⟨42, 5, flat cs_Unit a1⟩), (1, ⟨33, 0, [I 0, I 0, I 0]⟩), (2, ⟨42, 0, (cs_Unit x_41760.1)⟩)], 3⟩ (by kernel_rfl) (leB rfl) ?_
          refine w_seq (fun K hK_42057 => ?_)
          refine w_ite h (by kernel_rfl) (fun h_42058 h => ?_) (fun h_42058 h => ?_)
          · refine w_skip ?_
            refine hK_42057 _ ⟨[(1, sl 3 cs_Amount a2), (5, .ip [I a3]), (6, .ptr 1 0), (8, .own 0 a1.length), (9, .ptr 2 0), (31, sl 3 cs_Amount a2), (32, I (a2.length : Int)), (33, I s_42053)], [(0, ⟨42, 5, flat cs_Unit a1⟩), (1, ⟨33, 0, [I 0, I 0, I 0]⟩), (2, ⟨42, 0, (cs_Unit x_41760.1)⟩)], 3⟩ (to_trim (by kernel_rfl) (leB rfl)) ?_
            refine w_seq (fun K hK_42084 => ?_)
            refine w_block ?_
            refine w_seq (fun K hK_42091 => w_reg0 ?_)
            obtain ⟨x_42094, h_42095, h⟩ := bind_some' h
            refine dd_one 0 (.indexAddr 23 (.tmp 31) (.tmp 33)) (some 35) (by kernel_rfl) (o_pure (.ip (cs_Amount x_42094)) (ev_idx_sl (e := 33) (k := 3) (c := cs_Amount) (ik := .i64) h_42095 (by kernel_rfl) (by kernel_rfl) (by kernel_rfl) (by kernel_rfl)) rfl) ?_
            refine ops_fin' hK_42091 ⟨[(1, sl 3 cs_Amount a2), (5, .ip [I a3]), (6, .ptr 1 0), (8, .own 0 a1.length), (9, .ptr 2 0), (12, .ptr 3 0), (31, sl 3 cs_Amount a2), (32, I (a2.length : Int)), (33, I s_42053)], [(3, ⟨33, 0, (cs_Amount x_42094)⟩), (0, ⟨42, 5, flat cs_Unit a1⟩), (1, ⟨33, 0, [I 0, I 0, I 0]⟩), (2, ⟨42, 0, (cs_Unit x_41760.1)⟩)], 4⟩ (by kernel_rfl) (leB rfl) ?_
            refine w_seq (fun K hK_42104 => w_mix0 (by kernel_rfl) (by kernel_rfl) ?_)
            refine mm_run 0 3 rfl (by kernel_rfl) ?_
            obtain ⟨x_42107, h_42108, h⟩ := bind_some' h
            refine mm_one 3 (.indexAddr 55 (.tmp 37) (.tmp 39)) (some 40) (by kernel_rfl) (by kernel_rfl) (oH_pure (.ptr 0 (x_42094.Unit.toNat * 5)) (ev_idx_own (N := a1.length) (e := 42) (k := 5) (ik := .i64) h_42108 rfl (by kernel_rfl) (by kernel_rfl) (by kernel_rfl) (by kernel_rfl)) rfl) ?_
            refine mm_run 4 5 rfl (by kernel_rfl) ?_
            refine mm_one 5 (.load 3 (.tmp 41)) (some 42) (by kernel_rfl) (by kernel_rfl) (oH_pure (I x_42107.Base) (ev_load_row (o := x_42094.Unit.toNat * 5 + 2) (b := 0) (i := x_42094.Unit.toNat) (j := 2) (k := 5) (c := cs_Unit) (sz := 5) (ty := 42) (fun _ => rfl) (getI_some h_42108).2 rfl (by kernel_rfl) (by kernel_rfl) (by kernel_rfl)) rfl) ?_
            refine mix_fin' hK_42104 ⟨[(1, sl 3 cs_Amount a2), (5, .ip [I a3]), (6, .ptr 1 0), (8, .own 0 a1.length), (9, .ptr 2 0), (31, sl 3 cs_Amount a2), (32, I (a2.length : Int)), (33, I s_42053), (45, B (x_42107.Base != x_41760.1.Base))], [(3, ⟨33, 0, (cs_Amount x_42094)⟩), (0, ⟨42, 5, flat cs_Unit a1⟩), (1, ⟨33, 0, [I 0, I 0, I 0]⟩), (2, ⟨42, 0, (cs_Unit x_41760.1)⟩)], 4⟩ (by kernel_rfl) (leB rfl) ?_
            refine w_ite h (by kernel_rfl) (fun h_42109 h => ?_) (fun h_42109 h => ?_)
            · refine w_reg ⟨[(6, .ptr 1 0), (7, I 11)], [(3, ⟨33, 0, (cs_Amount x_42094)⟩), (0, ⟨42, 5, flat cs_Unit a1⟩), (1, ⟨33, 0, [I 0, I 0, I 0]⟩), (2, ⟨42, 0, (cs_Unit x_41760.1)⟩)], 4⟩ (by kernel_rfl) (leB rfl) ?_
              refine w_ret ?_
              obtain rfl := ((h_41941 _ (h_42054 _ (Option.some.inj h).symm).symm).symm).symm
              exact ret_leaf (.inl rfl) ⟨[(6, .ptr 1 0), (7, I 11)], [(0, ⟨42, 5, flat cs_Unit a1⟩), (1, ⟨33, 0, (cs_Amount (D.Amount.mk 0 (D.Ratio.mk 0 0)))⟩)], 2⟩ (to_ren [] (leB rfl) (by kernel_rfl) (by kernel_rfl) (renE_of (by kernel_rfl) (by kernel_rfl)) ⟨rePl (by kernel_rfl) (leB rfl) (flat_all _ (fun _ => rfl) _), ⟨reRn (by kernel_rfl) (leB rfl) (by kernel_rfl), trivial⟩⟩) [.agg (cs_Amount (D.Amount.mk 0 (D.Ratio.mk 0 0))), I 11] (by kernel_rfl) (by kernel_rfl) (leB rfl) (by kernel_rfl) ⟨⟨by kernel_rfl, leB rfl, (flat_all _ (fun _ => rfl) _)⟩, trivial⟩
            · refine w_skip ?_
              refine hK_42084 _ ⟨[(1, sl 3 cs_Amount a2), (5, .ip [I a3]), (6, .ptr 1 0), (8, .own 0 a1.length), (9, .ptr 2 0), (31, sl 3 cs_Amount a2), (32, I (a2.length : Int)), (33, I s_42053)], [(3, ⟨33, 0, (cs_Amount x_42094)⟩), (0, ⟨42, 5, flat cs_Unit a1⟩), (1, ⟨33, 0, [I 0, I 0, I 0]⟩), (2, ⟨42, 0, (cs_Unit x_41760.1)⟩)], 4⟩ (to_trim (by kernel_rfl) (leB rfl)) ?_
              refine w_reg0 ?_
              refine dd_run 0 2 rfl (by kernel_rfl) ?_
              refine dd_nil 2 rfl ?_
              exact hK_42055 _ _ (Option.some.inj h).symm (to_ren [] (leB rfl) (by kernel_rfl) (by kernel_rfl) (renE_of (by kernel_rfl) (by kernel_rfl)) ⟨rePl (by kernel_rfl) (leB rfl) (flat_all _ (fun _ => rfl) _), ⟨reRn (by kernel_rfl) (leB rfl) (by kernel_rfl), ⟨reRn (by kernel_rfl) (leB rfl) (by kernel_rfl), trivial⟩⟩⟩)
          · refine w_exit ?_
            exact hK_41942 _ _ (h_42054 _ (Option.some.inj h).symm).symm (to_ren [] (leB rfl) (by kernel_rfl) (by kernel_rfl) (renE_of (by kernel_rfl) (by kernel_rfl)) ⟨rePl (by kernel_rfl) (leB rfl) (flat_all _ (fun _ => rfl) _), ⟨reRn (by kernel_rfl) (leB rfl) (by kernel_rfl), trivial⟩⟩)
      · refine w_reg ⟨[(1, sl 3 cs_Amount a2), (5, .ip [I a3]), (6, .ptr 1 0), (8, .own 0 a1.length), (13, .ptr 2 0)], [(2, ⟨31, 0, [I 0, I 1]⟩), (0, ⟨42, 5, flat cs_Unit a1⟩), (1, ⟨33, 0, [I 0, I 0, I 0]⟩)], 3⟩ (by kernel_rfl) (leB rfl) ?_
        refine w_seq (fun K hK_42112 => w_reg0 ?_)
        refine dd_run 0 5 rfl (by kernel_rfl) ?_
        obtain ⟨x_42113, h_42114, h⟩ := bind_some' h
        refine dd_one 5 (.call ⟨.value (.func 39), #[(.tmp 49), (.tmp 51), (.tmp 52), (.tmp 53)], #[23, 62, 67, 68]⟩) (some 54) (by kernel_rfl) (o_callE [0, 2] (g_quantity_gather_value_Sum_1_Sum_2_v2_ok h_42114) (by kernel_rfl) (by kernel_rfl) (by kernel_rfl) rfl) ?_
        refine ops_fin' hK_42112 ⟨[(5, .ip [I a3]), (6, .ptr 1 0), (13, .ptr 2 0), (14, I x_42113.2)], [(0, ⟨42, 5, flat cs_Unit a1⟩), (2, ⟨31, 0, (cs_Ratio x_42113.1)⟩), (1, ⟨33, 0, [I 0, I 0, I 0]⟩)], 3⟩ (by kernel_rfl) (leB rfl) ?_
        refine w_assoc ?_
        refine w_reg ⟨[(5, .ip [I a3]), (6, .ptr 1 0), (13, .ptr 2 0), (14, I x_42113.2), (56, B (x_42113.2 != 0))], [(0, ⟨42, 5, flat cs_Unit a1⟩), (2, ⟨31, 0, (cs_Ratio x_42113.1)⟩), (1, ⟨33, 0, [I 0, I 0, I 0]⟩)], 3⟩ (by kernel_rfl) (leB rfl) ?_
        refine w_seq (fun K hK_42116 => ?_)
        refine w_ite h (by kernel_rfl) (fun h_42117 h => ?_) (fun h_42117 h => ?_)
        · refine w_reg ⟨[(6, .ptr 1 0), (7, I x_42113.2)], [(0, ⟨42, 5, flat cs_Unit a1⟩), (2, ⟨31, 0, (cs_Ratio x_42113.1)⟩), (1, ⟨33, 0, [I 0, I 0, I 0]⟩)], 3⟩ (by kernel_rfl) (leB rfl) ?_
          refine w_ret ?_
          obtain rfl := ((Option.some.inj h).symm).symm
          exact ret_leaf (.inl rfl) ⟨[(6, .ptr 1 0), (7, I x_42113.2)], [(0, ⟨42, 5, flat cs_Unit a1⟩), (1, ⟨33, 0, (cs_Amount (D.Amount.mk 0 (D.Ratio.mk 0 0)))⟩)], 2⟩ (to_ren [] (leB rfl) (by kernel_rfl) (by kernel_rfl) (renE_of (by kernel_rfl) (by kernel_rfl)) ⟨rePl (by kernel_rfl) (leB rfl) (flat_all _ (fun _ => rfl) _), ⟨reRn (by kernel_rfl) (leB rfl) (by kernel_rfl), trivial⟩⟩) [.agg (cs_Amount (D.Amount.mk 0 (D.Ratio.mk 0 0))), I x_42113.2] (by kernel_rfl) (by kernel_rfl) (leB rfl) (by kernel_rfl) ⟨⟨by kernel_rfl, leB rfl, (flat_all _ (fun _ => rfl) _)⟩, trivial⟩
        · refine w_skip ?_
          refine hK_42116 _ ⟨[(5, .ip [I a3]), (6, .ptr 1 0), (13, .ptr 2 0)], [(0, ⟨42, 5, flat cs_Unit a1⟩), (2, ⟨31, 0, (cs_Ratio x_42113.1)⟩), (1, ⟨33, 0, [I 0, I 0, I 0]⟩)], 3⟩ (to_trim (by kernel_rfl) (leB rfl)) ?_
          refine w_reg ⟨[(6, .ptr 1 0), (7, I 0)], [(0, ⟨42, 5, flat cs_Unit a1⟩), (2, ⟨31, 0, (cs_Ratio x_42113.1)⟩), (1, ⟨33, 0, ([I a3] ++ (cs_Ratio x_42113.1))⟩)], 3⟩ (by kernel_rfl) (leB rfl) ?_
          refine w_ret ?_
          obtain rfl := ((Option.some.inj h).symm).symm
          exact ret_leaf (.inl rfl) ⟨[(6, .ptr 1 0), (7, I 0)], [(0, ⟨42, 5, flat cs_Unit a1⟩), (1, ⟨33, 0, (cs_Amount (D.Amount.mk a3 x_42113.1))⟩)], 2⟩ (to_ren [] (leB rfl) (by kernel_rfl) (by kernel_rfl) (renE_of (by kernel_rfl) (by kernel_rfl)) ⟨rePl (by kernel_rfl) (leB rfl) (flat_all _ (fun _ => rfl) _), ⟨reRn (by kernel_rfl) (leB rfl) (by kernel_rfl), trivial⟩⟩) [.agg (cs_Amount (D.Amount.mk a3 x_42113.1)), I 0] (by kernel_rfl) (by kernel_rfl) (leB rfl) (by kernel_rfl) ⟨⟨by kernel_rfl, leB rfl, (flat_all _ (fun _ => rfl) _)⟩, trivial⟩
/-- estoppel/quantity.Basket$1 -/
def g_quantity_Basket_1_v2 (a1 : D.Amount) (a2 : List D.Unit) : Option (Int) :=
  (getI a2 a1.Unit).bind fun x_42271 =>
  some x_42271.Base
set_option maxHeartbeats 4000000 in
theorem g_quantity_Basket_1_v2_ok {a1 : D.Amount} {a2 : List D.Unit} {res : Int} (h : g_quantity_Basket_1_v2 a1 a2 = some res) : SpecK Tryd.prog [1] 43 [.agg (cs_Amount a1), .ptr 0 0] [(0, ⟨55, 0, [.own 1 a2.length]⟩), (1, ⟨42, 5, flat cs_Unit a2⟩)] 2 (I res) [(0, ⟨55, 0, [.own 1 a2.length]⟩), (1, ⟨42, 5, flat cs_Unit a2⟩)] 2 := by
  refine ⟨spec_of_wp Tryd.func43 (by kernel_rfl) rfl Tryd.ntmps43 (by rw [Tryd.results43]) (leB rfl) ?_, by kernel_rfl, ⟨⟨leB rfl, by kernel_rfl⟩, ⟨⟨leB rfl, flat_all (AV.keyed 0 4) (fun _ => rfl) _⟩, trivial⟩⟩, by kernel_rfl, ⟨⟨leB rfl, by kernel_rfl⟩, ⟨⟨leB rfl, flat_all (AV.keyed 0 4) (fun _ => rfl) _⟩, trivial⟩⟩, by kernel_rfl⟩
  unfold g_quantity_Basket_1_v2 at h
  refine w_reg ⟨[(1, .ptr 0 0), (2, .ip (cs_Amount a1))], [(0, ⟨55, 0, [.own 1 a2.length]⟩), (1, ⟨42, 5, flat cs_Unit a2⟩)], 2⟩ (by kernel_rfl) (leB rfl) ?_
  refine w_seq (fun K hK_42268 => w_reg0 ?_)
  refine dd_run 0 3 rfl (by kernel_rfl) ?_
  obtain ⟨x_42271, h_42272, h⟩ := bind_some' h
  refine dd_one 3 (.indexAddr 55 (.tmp 4) (.tmp 6)) (some 7) (by kernel_rfl) (o_pure (.ptr 1 (a1.Unit.toNat * 5)) (ev_idx_own (N := a2.length) (e := 42) (k := 5) (ik := .i64) h_42272 rfl (by kernel_rfl) (by kernel_rfl) (by kernel_rfl) (by kernel_rfl)) rfl) ?_
  refine dd_run 4 5 rfl (by kernel_rfl) ?_
  refine dd_one 5 (.load 3 (.tmp 8)) (some 9) (by kernel_rfl) (o_pure (I x_42271.Base) (ev_load_row (o := a1.Unit.toNat * 5 + 2) (b := 1) (i := a1.Unit.toNat) (j := 2) (k := 5) (c := cs_Unit) (sz := 5) (ty := 42) (fun _ => rfl) (getI_some h_42272).2 rfl (by kernel_rfl) (by kernel_rfl) (by kernel_rfl)) rfl) ?_
  refine ops_fin' hK_42268 ⟨[(3, I x_42271.Base)], [(0, ⟨55, 0, [.own 1 a2.length]⟩), (1, ⟨42, 5, flat cs_Unit a2⟩)], 2⟩ (by kernel_rfl) (leB rfl) ?_
  refine w_ret ?_
  obtain rfl := ((Option.some.inj h).symm).symm
  exact ret_leaf (.inl rfl) ⟨[(3, I x_42271.Base)], [(0, ⟨55, 0, [.own 1 a2.length]⟩), (1, ⟨42, 5, flat cs_Unit a2⟩)], 2⟩ (to_ren [] (leB rfl) (by kernel_rfl) (by kernel_rfl) (renE_of (by kernel_rfl) (by kernel_rfl)) ⟨reRn (by kernel_rfl) (leB rfl) (by kernel_rfl), ⟨rePl (by kernel_rfl) (leB rfl) (flat_all _ (fun _ => rfl) _), trivial⟩⟩) [I x_42271.Base] (by kernel_rfl) (by kernel_rfl) (leB rfl) (by kernel_rfl) ⟨⟨by kernel_rfl, leB rfl, (by kernel_rfl)⟩, ⟨⟨by kernel_rfl, leB rfl, (flat_all _ (fun _ => rfl) _)⟩, trivial⟩⟩
/-- estoppel/quantity.gather -/
def g_quantity_gather_value_Basket_1_Basket_2_v2 (a1 : List D.Amount) (a2 : List D.Unit) (a3 : List D.Ratio) : Option (List D.Ratio × Int) :=
  bindF (ρ := List D.Ratio) (
  loopO (σ := List D.Ratio × Int) (fun s_43004 =>
  if (decide (s_43004.2 < (a1.length : Int))) = true then
  (getI a1 s_43004.2).bind fun x_43051 =>
  (g_quantity_Basket_1_v2 x_43051 a2).bind fun x_43056 =>
  (g_estoppel_quantity_table_value_o a2 x_43051 x_43056).bind fun x_43061 =>
  bindF (ρ := List D.Ratio × Int) (
  if (x_43061.2 == 0) = true then
  (g_quantity_Basket_2 x_43056 x_43061.1 s_43004.1).bind fun x_43070 =>
  some (.inl (x_43070.1, x_43070.2))
  else
  some (.inl (s_43004.1, x_43061.2))) (fun (e_43066 : List D.Ratio × Int) =>
  if (e_43066.2 != 0) = true then
  some (.inr (.inr (e_43066.1, e_43066.2)))
  else
  some (.inl (e_43066.1, (IntKind.i64.wrap (s_43004.2 + 1)))))
  else
  some (.inr (.inl s_43004.1))) (a3, 0)) (fun (e_42867 : List D.Ratio) =>
  some (e_42867, 0))
set_option maxHeartbeats 4000000 in
theorem g_quantity_gather_value_Basket_1_Basket_2_v2_ok {a1 : List D.Amount} {a2 : List D.Unit} {a3 : List D.Ratio} {res : List D.Ratio × Int} (h : g_quantity_gather_value_Basket_1_Basket_2_v2 a1 a2 a3 = some res) : SpecK Tryd.prog [0, 3] 39 [sl 3 cs_Amount a1, .bm 35 [.own 0 a2.length], .fn 43 [.ptr 1 0], .fn 44 [.ptr 2 0]] [(0, ⟨42, 5, flat cs_Unit a2⟩), (1, ⟨55, 0, [.own 0 a2.length]⟩), (2, ⟨24, 0, [.own 3 a3.length]⟩), (3, ⟨31, 2, flat cs_Ratio a3⟩)] 4 (I res.2) [(0, ⟨42, 5, flat cs_Unit a2⟩), (1, ⟨55, 0, [.own 0 a2.length]⟩), (2, ⟨24, 0, [.own 3 res.1.length]⟩), (3, ⟨31, 2, flat cs_Ratio res.1⟩)] 4 := by
  refine ⟨spec_of_wp Tryd.func39 (by kernel_rfl) rfl Tryd.ntmps39 (by rw [Tryd.results39]) (leB rfl) ?_, by kernel_rfl, ⟨⟨leB rfl, flat_all (AV.keyed 0 4) (fun _ => rfl) _⟩, ⟨⟨leB rfl, by kernel_rfl⟩, ⟨⟨leB rfl, by kernel_rfl⟩, ⟨⟨leB rfl, flat_all (AV.keyed 0 4) (fun _ => rfl) _⟩, trivial⟩⟩⟩⟩, by kernel_rfl, ⟨⟨leB rfl, flat_all (AV.keyed 0 4) (fun _ => rfl) _⟩, ⟨⟨leB rfl, by kernel_rfl⟩, ⟨⟨leB rfl, by kernel_rfl⟩, ⟨⟨leB rfl, flat_all (AV.keyed 0 4) (fun _ => rfl) _⟩, trivial⟩⟩⟩⟩, by kernel_rfl⟩
  unfold g_quantity_gather_value_Basket_1_Basket_2_v2 at h
  refine w_reg ⟨[(0, sl 3 cs_Amount a1), (1, .bm 35 [.own 0 a2.length]), (2, .fn 43 [.ptr 1 0]), (3, .fn 44 [.ptr 2 0])], [(0, ⟨42, 5, flat cs_Unit a2⟩), (1, ⟨55, 0, [.own 0 a2.length]⟩), (2, ⟨24, 0, [.own 3 a3.length]⟩), (3, ⟨31, 2, flat cs_Ratio a3⟩)], 4⟩ (by kernel_rfl) (leB rfl) ?_
  refine w_assoc ?_
  refine w_seq (fun K hK_42665 => w_reg0 ?_)
  refine dd_run 0 1 rfl (by kernel_rfl) ?_
  refine dd_one 1 (.call ⟨.builtin .len, #[(.tmp 14)], #[23]⟩) (some 15) (by kernel_rfl) (o_pure (I (a1.length : Int)) (ev_len_sl (e := 33) (ty := 0) (k := 3) (c := cs_Amount) (by kernel_rfl) (by kernel_rfl)) rfl) ?_
  refine ops_fin' hK_42665 ⟨[(1, .bm 35 [.own 0 a2.length]), (2, .fn 43 [.ptr 1 0]), (3, .fn 44 [.ptr 2 0]), (14, sl 3 cs_Amount a1), (15, I (a1.length : Int)), (16, I 0)], [(0, ⟨42, 5, flat cs_Unit a2⟩), (1, ⟨55, 0, [.own 0 a2.length]⟩), (2, ⟨24, 0, [.own 3 a3.length]⟩), (3, ⟨31, 2, flat cs_Ratio a3⟩)], 4⟩ (by kernel_rfl) (leB rfl) ?_
  refine w_cut h (fun (e_42867 : List D.Ratio) => ⟨[], [(0, ⟨42, 5, flat cs_Unit a2⟩), (1, ⟨55, 0, [.own 0 a2.length]⟩), (2, ⟨24, 0, [.own 3 e_42867.length]⟩), (3, ⟨31, 2, flat cs_Ratio e_42867⟩)], 4⟩) (fun o h h_42868 K hK_42869 => ?_) (fun e_42867 h => ?_)
  · refine w_block ?_
    refine w_loopO h (fun (s_43004 : List D.Ratio × Int) => ⟨[(1, .bm 35 [.own 0 a2.length]), (2, .fn 43 [.ptr 1 0]), (3, .fn 44 [.ptr 2 0]), (14, sl 3 cs_Amount a1), (15, I (a1.length : Int)), (16, I s_43004.2)], [(0, ⟨42, 5, flat cs_Unit a2⟩), (1, ⟨55, 0, [.own 0 a2.length]⟩), (2, ⟨24, 0, [.own 3 s_43004.1.length]⟩), (3, ⟨31, 2, flat cs_Ratio s_43004.1⟩)], 4⟩) (to_ren [] (leB rfl) (by kernel_rfl) (by kernel_rfl) (renE_of (by kernel_rfl) (by kernel_rfl)) ⟨rePl (by kernel_rfl) (leB rfl) (flat_all _ (fun _ => rfl) _), ⟨reRn (by kernel_rfl) (leB rfl) (by kernel_rfl), ⟨reRn (by kernel_rfl) (leB rfl) (by kernel_rfl), ⟨rePl (by kernel_rfl) (leB rfl) (flat_all _ (fun _ => rfl) _), trivial⟩⟩⟩⟩) (fun s_43004 o h h_43005 K hK_43006 => ?_)
    · refine w_reg ⟨[(1, .bm 35 [.own 0 a2.length]), (2, .fn 43 [.ptr 1 0]), (3, .fn 44 [.ptr 2 0]), (14, sl 3 cs_Amount a1), (15, I (a1.length : Int)), (16, I s_43004.2), (17, B (decide (s_43004.2 < (a1.length : Int))))], [(0, ⟨42, 5, flat cs_Unit a2⟩), (1, ⟨55, 0, [.own 0 a2.length]⟩), (2, ⟨24, 0, [.own 3 s_43004.1.length]⟩), (3, ⟨31, 2, flat cs_Ratio s_43004.1⟩)], 4⟩ (by kernel_rfl) (leB rfl) ?_
      refine w_seq (fun K hK_43008 => ?_)
      refine w_ite h (by kernel_rfl) (fun h_43009 h => ?_) (fun h_43009 h => ?_)
      · refine w_skip ?_
        refine hK_43008 _ ⟨[(1, .bm 35 [.own 0 a2.length]), (2, .fn 43 [.ptr 1 0]), (3, .fn 44 [.ptr 2 0]), (14, sl 3 cs_Amount a1), (15, I (a1.length : Int)), (16, I s_43004.2)], [(0, ⟨42, 5, flat cs_Unit a2⟩), (1, ⟨55, 0, [.own 0 a2.length]⟩), (2, ⟨24, 0, [.own 3 s_43004.1.length]⟩), (3, ⟨31, 2, flat cs_Ratio s_43004.1⟩)], 4⟩ (to_trim (by kernel_rfl) (leB rfl)) ?_
        refine w_seq (fun K hK_43041 => ?_)
        refine w_block ?_
        refine w_seq (fun K hK_43048 => w_reg0 ?_)
        obtain ⟨x_43051, h_43052, h⟩ := bind_some' h
        refine dd_one 0 (.indexAddr 23 (.tmp 14) (.tmp 16)) (some 18) (by kernel_rfl) (o_pure (.ip (cs_Amount x_43051)) (ev_idx_sl (e := 33) (k := 3) (c := cs_Amount) (ik := .i64) h_43052 (by kernel_rfl) (by kernel_rfl) (by kernel_rfl) (by kernel_rfl)) rfl) ?_
        refine ops_fin' hK_43048 ⟨[(1, .bm 35 [.own 0 a2.length]), (2, .fn 43 [.ptr 1 0]), (3, .fn 44 [.ptr 2 0]), (10, .ptr 4 0), (14, sl 3 cs_Amount a1), (15, I (a1.length : Int)), (16, I s_43004.2)], [(4, ⟨33, 0, (cs_Amount x_43051)⟩), (0, ⟨42, 5, flat cs_Unit a2⟩), (1, ⟨55, 0, [.own 0 a2.length]⟩), (2, ⟨24, 0, [.own 3 s_43004.1.length]⟩), (3, ⟨31, 2, flat cs_Ratio s_43004.1⟩)], 5⟩ (by kernel_rfl) (leB rfl) ?_
        refine w_seq (fun K hK_43055 => w_reg0 ?_)
        refine dd_run 0 2 rfl (by kernel_rfl) ?_
        obtain ⟨x_43056, h_43057, h⟩ := bind_some' h
        refine dd_one 2 (.call ⟨.value (.tmp 20), #[(.tmp 21)], #[33]⟩) (some 22) (by kernel_rfl) (o_callE [1, 0] (g_quantity_Basket_1_v2_ok h_43057) (by kernel_rfl) (by kernel_rfl) (by kernel_rfl) rfl) ?_
        refine ops_fin' hK_43055 ⟨[(1, .bm 35 [.own 0 a2.length]), (2, .fn 43 [.ptr 1 0]), (3, .fn 44 [.ptr 2 0]), (10, .ptr 4 0), (11, I x_43056), (14, sl 3 cs_Amount a1), (15, I (a1.length : Int)), (16, I s_43004.2)], [(1, ⟨55, 0, [.own 0 a2.length]⟩), (0, ⟨42, 5, flat cs_Unit a2⟩), (4, ⟨33, 0, (cs_Amount x_43051)⟩), (2, ⟨24, 0, [.own 3 s_43004.1.length]⟩), (3, ⟨31, 2, flat cs_Ratio s_43004.1⟩)], 5⟩ (by kernel_rfl) (leB rfl) ?_
        refine w_seq (fun K hK_43060 => w_reg0 ?_)
        refine dd_run 0 3 rfl (by kernel_rfl) ?_
        obtain ⟨x_43061, h_43062, h⟩ := bind_some' h
        refine dd_one 3 (.call ⟨.value (.tmp 24), #[(.tmp 25), (.tmp 26)], #[33, 3]⟩) (some 27) (by kernel_rfl) (o_callE [0] (g_estoppel_quantity_table_value_o_ok h_43062) (by kernel_rfl) (by kernel_rfl) (by kernel_rfl) rfl) ?_
        refine ops_fin' hK_43060 ⟨[(1, .bm 35 [.own 0 a2.length]), (2, .fn 43 [.ptr 1 0]), (3, .fn 44 [.ptr 2 0]), (11, I x_43056), (12, .ptr 5 0), (13, I x_43061.2), (14, sl 3 cs_Amount a1), (15, I (a1.length : Int)), (16, I s_43004.2)], [(5, ⟨31, 0, (cs_Ratio x_43061.1)⟩), (0, ⟨42, 5, flat cs_Unit a2⟩), (1, ⟨55, 0, [.own 0 a2.length]⟩), (4, ⟨33, 0, (cs_Amount x_43051)⟩), (2, ⟨24, 0, [.own 3 s_43004.1.length]⟩), (3, ⟨31, 2, flat cs_Ratio s_43004.1⟩)], 6⟩ (by kernel_rfl) (leB rfl) ?_
        refine w_assoc ?_
        refine w_reg ⟨[(1, .bm 35 [.own 0 a2.length]), (2, .fn 43 [.ptr 1 0]), (3, .fn 44 [.ptr 2 0]), (11, I x_43056), (12, .ptr 5 0), (13, I x_43061.2), (14, sl 3 cs_Amount a1), (15, I (a1.length : Int)), (16, I s_43004.2), (31, B (x_43061.2 == 0))], [(5, ⟨31, 0, (cs_Ratio x_43061.1)⟩), (0, ⟨42, 5, flat cs_Unit a2⟩), (1, ⟨55, 0, [.own 0 a2.length]⟩), (4, ⟨33, 0, (cs_Amount x_43051)⟩), (2, ⟨24, 0, [.own 3 s_43004.1.length]⟩), (3, ⟨31, 2, flat cs_Ratio s_43004.1⟩)], 6⟩ (by kernel_rfl) (leB rfl) ?_
        refine w_cut h (fun (e_43066 : List D.Ratio × Int) => ⟨[(1, .bm 35 [.own 0 a2.length]), (2, .fn 43 [.ptr 1 0]), (3, .fn 44 [.ptr 2 0]), (13, I e_43066.2), (14, sl 3 cs_Amount a1), (15, I (a1.length : Int)), (16, I s_43004.2)], [(0, ⟨42, 5, flat cs_Unit a2⟩), (1, ⟨55, 0, [.own 0 a2.length]⟩), (2, ⟨24, 0, [.own 3 e_43066.1.length]⟩), (3, ⟨31, 2, flat cs_Ratio e_43066.1⟩)], 4⟩) (fun o h h_43067 K hK_43068 => ?_) (fun e_43066 h => ?_)
        · refine w_ite h (by kernel_rfl) (fun h_43069 h => ?_) (fun h_43069 h => ?_)
          · refine w_reg0 ?_
            refine dd_run 0 3 rfl (by kernel_rfl) ?_
            obtain ⟨x_43070, h_43071, h⟩ := bind_some' h
            refine dd_one 3 (.call ⟨.value (.tmp 32), #[(.tmp 33), (.tmp 34)], #[3, 31]⟩) (some 35) (by kernel_rfl) (o_callE [2, 3] (g_quantity_Basket_2_ok h_43071) (by kernel_rfl) (by kernel_rfl) (by kernel_rfl) rfl) ?_
            refine dd_run 4 5 rfl (by kernel_rfl) ?_
            refine dd_nil 5 rfl ?_
            exact hK_43068 _ _ (Option.some.inj h).symm (to_ren [] (leB rfl) (by kernel_rfl) (by kernel_rfl) (renE_of (by kernel_rfl) (by kernel_rfl)) ⟨rePl (by kernel_rfl) (leB rfl) (flat_all _ (fun _ => rfl) _), ⟨reRn (by kernel_rfl) (leB rfl) (by kernel_rfl), ⟨reRn (by kernel_rfl) (leB rfl) (by kernel_rfl), ⟨rePl (by kernel_rfl) (leB rfl) (flat_all _ (fun _ => rfl) _), trivial⟩⟩⟩⟩)
          · refine w_skip ?_
            exact hK_43068 _ _ (Option.some.inj h).symm (to_ren [] (leB rfl) (by kernel_rfl) (by kernel_rfl) (renE_of (by kernel_rfl) (by kernel_rfl)) ⟨rePl (by kernel_rfl) (leB rfl) (flat_all _ (fun _ => rfl) _), ⟨reRn (by kernel_rfl) (leB rfl) (by kernel_rfl), ⟨reRn (by kernel_rfl) (leB rfl) (by kernel_rfl), ⟨rePl (by kernel_rfl) (leB rfl) (flat_all _ (fun _ => rfl) _), trivial⟩⟩⟩⟩)
        · refine w_reg ⟨[(1, .bm 35 [.own 0 a2.length]), (2, .fn 43 [.ptr 1 0]), (3, .fn 44 [.ptr 2 0]), (13, I e_43066.2), (14, sl 3 cs_Amount a1), (15, I (a1.length : Int)), (16, I s_43004.2), (37, B (e_43066.2 != 0))], [(0, ⟨42, 5, flat cs_Unit a2⟩), (1, ⟨55, 0, [.own 0 a2.length]⟩), (2, ⟨24, 0, [.own 3 e_43066.1.length]⟩), (3, ⟨31, 2, flat cs_Ratio e_43066.1⟩)], 4⟩ (by kernel_rfl) (leB rfl) ?_
          refine w_ite h (by kernel_rfl) (fun h_43072 h => ?_) (fun h_43072 h => ?_)
          · refine w_reg ⟨[(8, I e_43066.2)], [(0, ⟨42, 5, flat cs_Unit a2⟩), (1, ⟨55, 0, [.own 0 a2.length]⟩), (2, ⟨24, 0, [.own 3 e_43066.1.length]⟩), (3, ⟨31, 2, flat cs_Ratio e_43066.1⟩)], 4⟩ (by kernel_rfl) (leB rfl) ?_
            refine w_ret ?_
            obtain rfl := ((h_42868 _ (h_43005 _ (Option.some.inj h).symm).symm).symm).symm
            exact ret_leaf (.inl rfl) ⟨[(8, I e_43066.2)], [(0, ⟨42, 5, flat cs_Unit a2⟩), (1, ⟨55, 0, [.own 0 a2.length]⟩), (2, ⟨24, 0, [.own 3 e_43066.1.length]⟩), (3, ⟨31, 2, flat cs_Ratio e_43066.1⟩)], 4⟩ (to_ren [] (leB rfl) (by kernel_rfl) (by kernel_rfl) (renE_of (by kernel_rfl) (by kernel_rfl)) ⟨rePl (by kernel_rfl) (leB rfl) (flat_all _ (fun _ => rfl) _), ⟨reRn (by kernel_rfl) (leB rfl) (by kernel_rfl), ⟨reRn (by kernel_rfl) (leB rfl) (by kernel_rfl), ⟨rePl (by kernel_rfl) (leB rfl) (flat_all _ (fun _ => rfl) _), trivial⟩⟩⟩⟩) [I e_43066.2] (by kernel_rfl) (by kernel_rfl) (leB rfl) (by kernel_rfl) ⟨⟨by kernel_rfl, leB rfl, (flat_all _ (fun _ => rfl) _)⟩, ⟨⟨by kernel_rfl, leB rfl, (by kernel_rfl)⟩, ⟨⟨by kernel_rfl, leB rfl, (by kernel_rfl)⟩, ⟨⟨by kernel_rfl, leB rfl, (flat_all _ (fun _ => rfl) _)⟩, trivial⟩⟩⟩⟩
          · refine w_skip ?_
            refine hK_43041 _ ⟨[(1, .bm 35 [.own 0 a2.length]), (2, .fn 43 [.ptr 1 0]), (3, .fn 44 [.ptr 2 0]), (14, sl 3 cs_Amount a1), (15, I (a1.length : Int)), (16, I s_43004.2)], [(0, ⟨42, 5, flat cs_Unit a2⟩), (1, ⟨55, 0, [.own 0 a2.length]⟩), (2, ⟨24, 0, [.own 3 e_43066.1.length]⟩), (3, ⟨31, 2, flat cs_Ratio e_43066.1⟩)], 4⟩ (to_trim (by kernel_rfl) (leB rfl)) ?_
            refine w_reg0 ?_
            refine dd_run 0 2 rfl (by kernel_rfl) ?_
            refine dd_nil 2 rfl ?_
            exact hK_43006 _ _ (Option.some.inj h).symm (to_ren [] (leB rfl) (by kernel_rfl) (by kernel_rfl) (renE_of (by kernel_rfl) (by kernel_rfl)) ⟨rePl (by kernel_rfl) (leB rfl) (flat_all _ (fun _ => rfl) _), ⟨reRn (by kernel_rfl) (leB rfl) (by kernel_rfl), ⟨reRn (by kernel_rfl) (leB rfl) (by kernel_rfl), ⟨rePl (by kernel_rfl) (leB rfl) (flat_all _ (fun _ => rfl) _), trivial⟩⟩⟩⟩)
      · refine w_exit ?_
        exact hK_42869 _ _ (h_43005 _ (Option.some.inj h).symm).symm (to_ren [] (leB rfl) (by kernel_rfl) (by kernel_rfl) (renE_of (by kernel_rfl) (by kernel_rfl)) ⟨rePl (by kernel_rfl) (leB rfl) (flat_all _ (fun _ => rfl) _), ⟨reRn (by kernel_rfl) (leB rfl) (by kernel_rfl), ⟨reRn (by kernel_rfl) (leB rfl) (by kernel_rfl), ⟨rePl (by kernel_rfl) (leB rfl) (flat_all _ (fun _ => rfl) _), trivial⟩⟩⟩⟩)
  · refine w_reg ⟨[(8, I 0)], [(0, ⟨42, 5, flat cs_Unit a2⟩), (1, ⟨55, 0, [.own 0 a2.length]⟩), (2, ⟨24, 0, [.own 3 e_42867.length]⟩), (3, ⟨31, 2, flat cs_Ratio e_42867⟩)], 4⟩ (by kernel_rfl) (leB rfl) ?_
    refine w_ret ?_
    obtain rfl := ((Option.some.inj h).symm).symm
    exact ret_leaf (.inl rfl) ⟨[(8, I 0)], [(0, ⟨42, 5, flat cs_Unit a2⟩), (1, ⟨55, 0, [.own 0 a2.length]⟩), (2, ⟨24, 0, [.own 3 e_42867.length]⟩), (3, ⟨31, 2, flat cs_Ratio e_42867⟩)], 4⟩ (to_ren [] (leB rfl) (by kernel_rfl) (by kernel_rfl) (renE_of (by kernel_rfl) (by kernel_rfl)) ⟨rePl (by kernel_rfl) (leB rfl) (flat_all _ (fun _ => rfl) _), ⟨reRn (by kernel_rfl) (leB rfl) (by kernel_rfl), ⟨reRn (by kernel_rfl) (leB rfl) (by kernel_rfl), ⟨rePl (by kernel_rfl) (leB rfl) (flat_all _ (fun _ => rfl) _), trivial⟩⟩⟩⟩) [I 0] (by kernel_rfl) (by kernel_rfl) (leB rfl) (by kernel_rfl) ⟨⟨by kernel_rfl, leB rfl, (flat_all _ (fun _ => rfl) _)⟩, ⟨⟨by kernel_rfl, leB rfl, (by kernel_rfl)⟩, ⟨⟨by kernel_rfl, leB rfl, (by kernel_rfl)⟩, ⟨⟨by kernel_rfl, leB rfl, (flat_all _ (fun _ => rfl) _)⟩, trivial⟩⟩⟩⟩
end Go.Proofs.YtdfokoapenhalaaDoor.Ab
