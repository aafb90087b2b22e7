/- Functions of the program as plain functions (printed by wip/dec.py). -/
import Derived.Test.YtdfokoapenhalaaDoorDq1
import Derived.Test.YtdfokoapenhalaaDoorDq2
import Derived.Test.YtdfokoapenhalaaDoorDq4
import Derived.Test.YtdfokoapenhalaaDoorDq5
namespace Go.Proofs.YtdfokoapenhalaaDoor.Ab
open Go Go.RowKit Go.Shelf
/-- estoppel/quantity.Basket$1 -/
def g_quantity_Basket_1 (a1 : D.Amount) (a2 : List D.Unit) : Option (Int) :=
  (getI a2 a1.Unit).bind fun x_15191 =>
  some x_15191.Base
set_option maxHeartbeats 4000000 in
theorem g_quantity_Basket_1_ok {a1 : D.Amount} {a2 : List D.Unit} {res : Int} (h : g_quantity_Basket_1 a1 a2 = some res) : SpecK Tryd.prog [] 43 [.agg (cs_Amount a1), .ptr 0 0] [(0, ⟨55, 0, [sl 5 cs_Unit a2]⟩)] 1 (I res) [(0, ⟨55, 0, [sl 5 cs_Unit a2]⟩)] 1 := by
  refine ⟨spec_of_wp Tryd.func43 (by kernel_rfl) rfl Tryd.ntmps43 (by rw [Tryd.results43]) (leB rfl) ?_, by kernel_rfl, ⟨⟨leB rfl, by kernel_rfl⟩, trivial⟩, by kernel_rfl, ⟨⟨leB rfl, by kernel_rfl⟩, trivial⟩, by kernel_rfl⟩
  unfold g_quantity_Basket_1 at h
  refine w_reg ⟨[(1, .ptr 0 0), (2, .ip (cs_Amount a1))], [(0, ⟨55, 0, [sl 5 cs_Unit a2]⟩)], 1⟩ (by kernel_rfl) (leB rfl) ?_
  refine w_seq (fun K hK_15188 => w_reg0 ?_)
  refine dd_run 0 3 rfl (by kernel_rfl) ?_
  obtain ⟨x_15191, h_15192, h⟩ := bind_some' h
  refine dd_one 3 (.indexAddr 55 (.tmp 4) (.tmp 6)) (some 7) (by kernel_rfl) (o_pure (.ip (cs_Unit x_15191)) (ev_idx_sl (e := 42) (k := 5) (c := cs_Unit) (ik := .i64) h_15192 (by kernel_rfl) (by kernel_rfl) (by kernel_rfl) (by kernel_rfl)) rfl) ?_
  refine ops_fin' hK_15188 ⟨[(3, I x_15191.Base)], [(0, ⟨55, 0, [sl 5 cs_Unit a2]⟩)], 1⟩ (by kernel_rfl) (leB rfl) ?_
  refine w_ret ?_
  obtain rfl := ((Option.some.inj h).symm).symm
  exact ret_leaf (.inl rfl) ⟨[(3, I x_15191.Base)], [(0, ⟨55, 0, [sl 5 cs_Unit a2]⟩)], 1⟩ (to_ren [] (leB rfl) (by kernel_rfl) (by kernel_rfl) (renE_of (by kernel_rfl) (by kernel_rfl)) ⟨reRn (by kernel_rfl) (leB rfl) (by kernel_rfl), trivial⟩) [I x_15191.Base] (by kernel_rfl) (by kernel_rfl) (leB rfl) (by kernel_rfl) ⟨⟨by kernel_rfl, leB rfl, (by kernel_rfl)⟩, trivial⟩
/-- estoppel/quantity.Basket$2 -/
def g_quantity_Basket_2 (a1 : Int) (a2 : D.Ratio) (a3 : List D.Ratio) : Option (List D.Ratio × Int) :=
  (getI a3 a1).bind fun x_15246 =>
  (g_ratio_Add x_15246 a2).bind fun x_15248 =>
  (getI a3 a1).bind fun x_15252 =>
  some ((setI a3 a1 x_15248.1), x_15248.2)
set_option maxHeartbeats 4000000 in
theorem g_quantity_Basket_2_ok {a1 : Int} {a2 : D.Ratio} {a3 : List D.Ratio} {res : List D.Ratio × Int} (h : g_quantity_Basket_2 a1 a2 a3 = some res) : SpecK Tryd.prog [1] 44 [I a1, .agg (cs_Ratio a2), .ptr 0 0] [(0, ⟨24, 0, [.own 1 a3.length]⟩), (1, ⟨31, 2, flat cs_Ratio a3⟩)] 2 (I res.2) [(0, ⟨24, 0, [.own 1 res.1.length]⟩), (1, ⟨31, 2, flat cs_Ratio res.1⟩)] 2 := by
  refine ⟨spec_of_wp Tryd.func44 (by kernel_rfl) rfl Tryd.ntmps44 (by rw [Tryd.results44]) (leB rfl) ?_, by kernel_rfl, ⟨⟨leB rfl, by kernel_rfl⟩, ⟨⟨leB rfl, flat_all (AV.keyed 0 4) (fun _ => rfl) _⟩, trivial⟩⟩, by kernel_rfl, ⟨⟨leB rfl, by kernel_rfl⟩, ⟨⟨leB rfl, flat_all (AV.keyed 0 4) (fun _ => rfl) _⟩, trivial⟩⟩, by kernel_rfl⟩
  unfold g_quantity_Basket_2 at h
  refine w_reg ⟨[(0, I a1), (2, .ptr 0 0), (4, .ip (cs_Ratio a2))], [(0, ⟨24, 0, [.own 1 a3.length]⟩), (1, ⟨31, 2, flat cs_Ratio a3⟩)], 2⟩ (by kernel_rfl) (leB rfl) ?_
  refine w_seq (fun K hK_15243 => w_mix0 (by kernel_rfl) (by kernel_rfl) ?_)
  refine mm_run 0 4 rfl (by kernel_rfl) ?_
  obtain ⟨x_15246, h_15247, h⟩ := bind_some' h
  refine mm_one 4 (.indexAddr 24 (.tmp 9) (.tmp 10)) (some 11) (by kernel_rfl) (by kernel_rfl) (oH_pure (.ptr 1 (a1.toNat * 2)) (ev_idx_own (N := a3.length) (e := 31) (k := 2) (ik := .i64) h_15247 rfl (by kernel_rfl) (by kernel_rfl) (by kernel_rfl) (by kernel_rfl)) rfl) ?_
  refine mm_one 5 (.load 31 (.tmp 11)) (some 12) (by kernel_rfl) (by kernel_rfl) (oH_pure (.agg (cs_Ratio x_15246)) (ev_load_row (o := a1.toNat * 2) (b := 1) (i := a1.toNat) (j := 0) (k := 2) (c := cs_Ratio) (sz := 2) (ty := 31) (fun _ => rfl) (getI_some h_15247).2 rfl (by kernel_rfl) (by kernel_rfl) (by kernel_rfl)) rfl) ?_
  refine mm_run 6 7 rfl (by kernel_rfl) ?_
  obtain ⟨x_15248, h_15249, h⟩ := bind_some' h
  refine mm_one 7 (.call ⟨.value (.func 25), #[(.tmp 12), (.tmp 13)], #[31, 31]⟩) (some 14) (by kernel_rfl) (by kernel_rfl) (oH_callP (g_ratio_Add_ok h_15249) (by kernel_rfl) rfl) ?_
  refine mm_run 8 11 rfl (by kernel_rfl) ?_
  obtain ⟨x_15252, h_15253, h⟩ := bind_some' h
  refine mm_one 11 (.indexAddr 24 (.tmp 7) (.tmp 8)) (some 17) (by kernel_rfl) (by kernel_rfl) (oH_pure (.ptr 1 (a1.toNat * 2)) (ev_idx_own (N := a3.length) (e := 31) (k := 2) (ik := .i64) h_15253 rfl (by kernel_rfl) (by kernel_rfl) (by kernel_rfl) (by kernel_rfl)) rfl) ?_
  refine mm_ops 12 (.store 31 (.tmp 17) (.tmp 15)) none none (by kernel_rfl) (by kernel_rfl) ?_
  refine dd_one 12 (.store 31 (.tmp 17) (.tmp 15)) none (by kernel_rfl) (o_heap (U) [(0, ⟨24, 0, [.own 1 a3.length]⟩), (1, ⟨31, 2, flat cs_Ratio (setI a3 a1 x_15248.1)⟩)] 2 (by kernel_rfl) (hv_store_row (o := a1.toNat * 2) (b := 1) (y := .agg (cs_Ratio x_15248.1)) (i := a1.toNat) (j := 0) (k := 2) (s := 2) (c := cs_Ratio) (a' := x_15248.1) (sz := 2) (ty := 31) (fun _ => rfl) (getI_some h_15253).2 rfl (by kernel_rfl) (by kernel_rfl) (by kernel_rfl) (by kernel_rfl) (by kernel_rfl) (by kernel_rfl) (leB rfl) (by kernel_rfl)) rfl) ?_
  refine ops_fin' hK_15243 ⟨[(5, I x_15248.2)], [(0, ⟨24, 0, [.own 1 a3.length]⟩), (1, ⟨31, 2, flat cs_Ratio (setI a3 a1 x_15248.1)⟩)], 2⟩ (by kernel_rfl) (leB rfl) ?_
  refine w_reg ⟨[(5, I x_15248.2)], [(0, ⟨24, 0, [.own 1 a3.length]⟩), (1, ⟨31, 2, flat cs_Ratio (setI a3 a1 x_15248.1)⟩)], 2⟩ (by kernel_rfl) (leB rfl) ?_
  refine w_ret ?_
  obtain rfl := ((Option.some.inj h).symm).symm
  exact ret_leaf (.inl rfl) ⟨[(5, I x_15248.2)], [(0, ⟨24, 0, [.own 1 (setI a3 a1 x_15248.1).length]⟩), (1, ⟨31, 2, flat cs_Ratio (setI a3 a1 x_15248.1)⟩)], 2⟩ (to_trans (to_cell 0 0 (q := ⟨24, 0, [.own 1 a3.length]⟩) (leB rfl) (by kernel_rfl) (by kernel_rfl) (Sub.of_eq (show AV.own 1 a3.length = AV.own 1 (setI a3 a1 x_15248.1).length by simp [setI]))) (to_ren [] (leB rfl) (by kernel_rfl) (by kernel_rfl) (renE_of (by kernel_rfl) (by kernel_rfl)) ⟨reRn (by kernel_rfl) (leB rfl) (by kernel_rfl), ⟨rePl (by kernel_rfl) (leB rfl) (flat_all _ (fun _ => rfl) _), trivial⟩⟩)) [I x_15248.2] (by kernel_rfl) (by kernel_rfl) (leB rfl) (by kernel_rfl) ⟨⟨by kernel_rfl, leB rfl, (by kernel_rfl)⟩, ⟨⟨by kernel_rfl, leB rfl, (flat_all _ (fun _ => rfl) _)⟩, trivial⟩⟩
/-- estoppel/quantity.gather -/
def g_quantity_gather_value_Basket_1_Basket_2 (a1 : List D.Amount) (a2 : List D.Unit) (a3 : List D.Unit) (a4 : List D.Ratio) : Option (List D.Ratio × Int) :=
  bindF (ρ := List D.Ratio) (
  loopO (σ := List D.Ratio × Int) (fun s_15974 =>
  if (decide (s_15974.2 < (a1.length : Int))) = true then
  (getI a1 s_15974.2).bind fun x_16021 =>
  (g_quantity_Basket_1 x_16021 a3).bind fun x_16026 =>
  (g_estoppel_quantity_table_value a2 x_16021 x_16026).bind fun x_16031 =>
  bindF (ρ := List D.Ratio × Int) (
  if (x_16031.2 == 0) = true then
  (g_quantity_Basket_2 x_16026 x_16031.1 s_15974.1).bind fun x_16040 =>
  some (.inl (x_16040.1, x_16040.2))
  else
  some (.inl (s_15974.1, x_16031.2))) (fun (e_16036 : List D.Ratio × Int) =>
  if (e_16036.2 != 0) = true then
  some (.inr (.inr (e_16036.1, e_16036.2)))
  else
  some (.inl (e_16036.1, (IntKind.i64.wrap (s_15974.2 + 1)))))
  else
  some (.inr (.inl s_15974.1))) (a4, 0)) (fun (e_15837 : List D.Ratio) =>
  some (e_15837, 0))
set_option maxHeartbeats 4000000 in
theorem g_quantity_gather_value_Basket_1_Basket_2_ok {a1 : List D.Amount} {a2 : List D.Unit} {a3 : List D.Unit} {a4 : List D.Ratio} {res : List D.Ratio × Int} (h : g_quantity_gather_value_Basket_1_Basket_2 a1 a2 a3 a4 = some res) : SpecK Tryd.prog [2] 39 [sl 3 cs_Amount a1, .bm 35 [sl 5 cs_Unit a2], .fn 43 [.ptr 0 0], .fn 44 [.ptr 1 0]] [(0, ⟨55, 0, [sl 5 cs_Unit a3]⟩), (1, ⟨24, 0, [.own 2 a4.length]⟩), (2, ⟨31, 2, flat cs_Ratio a4⟩)] 3 (I res.2) [(0, ⟨55, 0, [sl 5 cs_Unit a3]⟩), (1, ⟨24, 0, [.own 2 res.1.length]⟩), (2, ⟨31, 2, flat cs_Ratio res.1⟩)] 3 := by
  refine ⟨spec_of_wp Tryd.func39 (by kernel_rfl) rfl Tryd.ntmps39 (by rw [Tryd.results39]) (leB rfl) ?_, by kernel_rfl, ⟨⟨leB rfl, by kernel_rfl⟩, ⟨⟨leB rfl, by kernel_rfl⟩, ⟨⟨leB rfl, flat_all (AV.keyed 0 4) (fun _ => rfl) _⟩, trivial⟩⟩⟩, by kernel_rfl, ⟨⟨leB rfl, by kernel_rfl⟩, ⟨⟨leB rfl, by kernel_rfl⟩, ⟨⟨leB rfl, flat_all (AV.keyed 0 4) (fun _ => rfl) _⟩, trivial⟩⟩⟩, by kernel_rfl⟩
  unfold g_quantity_gather_value_Basket_1_Basket_2 at h
  refine w_reg ⟨[(0, sl 3 cs_Amount a1), (1, .bm 35 [sl 5 cs_Unit a2]), (2, .fn 43 [.ptr 0 0]), (3, .fn 44 [.ptr 1 0])], [(0, ⟨55, 0, [sl 5 cs_Unit a3]⟩), (1, ⟨24, 0, [.own 2 a4.length]⟩), (2, ⟨31, 2, flat cs_Ratio a4⟩)], 3⟩ (by kernel_rfl) (leB rfl) ?_
  refine w_assoc ?_
  refine w_seq (fun K hK_15635 => w_reg0 ?_)
  refine dd_run 0 1 rfl (by kernel_rfl) ?_
  refine dd_one 1 (.call ⟨.builtin .len, #[(.tmp 14)], #[23]⟩) (some 15) (by kernel_rfl) (o_pure (I (a1.length : Int)) (ev_len_sl (e := 33) (ty := 0) (k := 3) (c := cs_Amount) (by kernel_rfl) (by kernel_rfl)) rfl) ?_
  refine ops_fin' hK_15635 ⟨[(1, .bm 35 [sl 5 cs_Unit a2]), (2, .fn 43 [.ptr 0 0]), (3, .fn 44 [.ptr 1 0]), (14, sl 3 cs_Amount a1), (15, I (a1.length : Int)), (16, I 0)], [(0, ⟨55, 0, [sl 5 cs_Unit a3]⟩), (1, ⟨24, 0, [.own 2 a4.length]⟩), (2, ⟨31, 2, flat cs_Ratio a4⟩)], 3⟩ (by kernel_rfl) (leB rfl) ?_
  refine w_cut h (fun (e_15837 : List D.Ratio) => ⟨[], [(0, ⟨55, 0, [sl 5 cs_Unit a3]⟩), (1, ⟨24, 0, [.own 2 e_15837.length]⟩), (2, ⟨31, 2, flat cs_Ratio e_15837⟩)], 3⟩) (fun o h h_15838 K hK_15839 => ?_) (fun e_15837 h => ?_)
  · refine w_block ?_
    refine w_loopO h (fun (s_15974 : List D.Ratio × Int) => ⟨[(1, .bm 35 [sl 5 cs_Unit a2]), (2, .fn 43 [.ptr 0 0]), (3, .fn 44 [.ptr 1 0]), (14, sl 3 cs_Amount a1), (15, I (a1.length : Int)), (16, I s_15974.2)], [(0, ⟨55, 0, [sl 5 cs_Unit a3]⟩), (1, ⟨24, 0, [.own 2 s_15974.1.length]⟩), (2, ⟨31, 2, flat cs_Ratio s_15974.1⟩)], 3⟩) (to_ren [] (leB rfl) (by kernel_rfl) (by kernel_rfl) (renE_of (by kernel_rfl) (by kernel_rfl)) ⟨reRn (by kernel_rfl) (leB rfl) (by kernel_rfl), ⟨reRn (by kernel_rfl) (leB rfl) (by kernel_rfl), ⟨rePl (by kernel_rfl) (leB rfl) (flat_all _ (fun _ => rfl) _), trivial⟩⟩⟩) (fun s_15974 o h h_15975 K hK_15976 => ?_)
    · refine w_reg ⟨[(1, .bm 35 [sl 5 cs_Unit a2]), (2, .fn 43 [.ptr 0 0]), (3, .fn 44 [.ptr 1 0]), (14, sl 3 cs_Amount a1), (15, I (a1.length : Int)), (16, I s_15974.2), (17, B (decide (s_15974.2 < (a1.length : Int))))], [(0, ⟨55, 0, [sl 5 cs_Unit a3]⟩), (1, ⟨24, 0, [.own 2 s_15974.1.length]⟩), (2, ⟨31, 2, flat cs_Ratio s_15974.1⟩)], 3⟩ (by kernel_rfl) (leB rfl) ?_
      refine w_seq (fun K hK_15978 => ?_)
      refine w_ite h (by kernel_rfl) (fun h_15979 h => ?_) (fun h_15979 h => ?_)
      · refine w_skip ?_
        refine hK_15978 _ ⟨[(1, .bm 35 [sl 5 cs_Unit a2]), (2, .fn 43 [.ptr 0 0]), (3, .fn 44 [.ptr 1 0]), (14, sl 3 cs_Amount a1), (15, I (a1.length : Int)), (16, I s_15974.2)], [(0, ⟨55, 0, [sl 5 cs_Unit a3]⟩), (1, ⟨24, 0, [.own 2 s_15974.1.length]⟩), (2, ⟨31, 2, flat cs_Ratio s_15974.1⟩)], 3⟩ (to_trim (by kernel_rfl) (leB rfl)) ?_
        refine w_seq (fun K hK_16011 => ?_)
        refine w_block ?_
        refine w_seq (fun K hK_16018 => w_reg0 ?_)
        obtain ⟨x_16021, h_16022, h⟩ := bind_some' h
        refine dd_one 0 (.indexAddr 23 (.tmp 14) (.tmp 16)) (some 18) (by kernel_rfl) (o_pure (.ip (cs_Amount x_16021)) (ev_idx_sl (e := 33) (k := 3) (c := cs_Amount) (ik := .i64) h_16022 (by kernel_rfl) (by kernel_rfl) (by kernel_rfl) (by kernel_rfl)) rfl) ?_
        refine ops_fin' hK_16018 ⟨[(1, .bm 35 [sl 5 cs_Unit a2]), (2, .fn 43 [.ptr 0 0]), (3, .fn 44 [.ptr 1 0]), (10, .ptr 3 0), (14, sl 3 cs_Amount a1), (15, I (a1.length : Int)), (16, I s_15974.2)], [(3, ⟨33, 0, (cs_Amount x_16021)⟩), (0, ⟨55, 0, [sl 5 cs_Unit a3]⟩), (1, ⟨24, 0, [.own 2 s_15974.1.length]⟩), (2, ⟨31, 2, flat cs_Ratio s_15974.1⟩)], 4⟩ (by kernel_rfl) (leB rfl) ?_
        refine w_seq (fun K hK_16025 => w_reg0 ?_)
        refine dd_run 0 2 rfl (by kernel_rfl) ?_
        obtain ⟨x_16026, h_16027, h⟩ := bind_some' h
        refine dd_one 2 (.call ⟨.value (.tmp 20), #[(.tmp 21)], #[33]⟩) (some 22) (by kernel_rfl) (o_callE [0] (g_quantity_Basket_1_ok h_16027) (by kernel_rfl) (by kernel_rfl) (by kernel_rfl) rfl) ?_
        refine ops_fin' hK_16025 ⟨[(1, .bm 35 [sl 5 cs_Unit a2]), (2, .fn 43 [.ptr 0 0]), (3, .fn 44 [.ptr 1 0]), (10, .ptr 3 0), (11, I x_16026), (14, sl 3 cs_Amount a1), (15, I (a1.length : Int)), (16, I s_15974.2)], [(0, ⟨55, 0, [sl 5 cs_Unit a3]⟩), (3, ⟨33, 0, (cs_Amount x_16021)⟩), (1, ⟨24, 0, [.own 2 s_15974.1.length]⟩), (2, ⟨31, 2, flat cs_Ratio s_15974.1⟩)], 4⟩ (by kernel_rfl) (leB rfl) ?_
        refine w_seq (fun K hK_16030 => w_reg0 ?_)
        refine dd_run 0 3 rfl (by kernel_rfl) ?_
        obtain ⟨x_16031, h_16032, h⟩ := bind_some' h
        refine dd_one 3 (.call ⟨.value (.tmp 24), #[(.tmp 25), (.tmp 26)], #[33, 3]⟩) (some 27) (by kernel_rfl) (o_callP (g_estoppel_quantity_table_value_ok h_16032) (by kernel_rfl) rfl) ?_
        refine ops_fin' hK_16030 ⟨[(1, .bm 35 [sl 5 cs_Unit a2]), (2, .fn 43 [.ptr 0 0]), (3, .fn 44 [.ptr 1 0]), (11, I x_16026), (12, .ptr 4 0), (13, I x_16031.2), (14, sl 3 cs_Amount a1), (15, I (a1.length : Int)), (16, I s_15974.2)], [(4, ⟨31, 0, (cs_Ratio x_16031.1)⟩), (0, ⟨55, 0, [sl 5 cs_Unit a3]⟩), (3, ⟨33, 0, (cs_Amount x_16021)⟩), (1, ⟨24, 0, [.own 2 s_15974.1.length]⟩), (2, ⟨31, 2, flat cs_Ratio s_15974.1⟩)], 5⟩ (by kernel_rfl) (leB rfl) ?_
        refine w_assoc ?_
        refine w_reg ⟨[(1, .bm 35 [sl 5 cs_Unit a2]), (2, .fn 43 [.ptr 0 0]), (3, .fn 44 [.ptr 1 0]), (11, I x_16026), (12, .ptr 4 0), (13, I x_16031.2), (14, sl 3 cs_Amount a1), (15, I (a1.length : Int)), (16, I s_15974.2), (31, B (x_16031.2 == 0))], [(4, ⟨31, 0, (cs_Ratio x_16031.1)⟩), (0, ⟨55, 0, [sl 5 cs_Unit a3]⟩), (3, ⟨33, 0, (cs_Amount x_16021)⟩), (1, ⟨24, 0, [.own 2 s_15974.1.length]⟩), (2, ⟨31, 2, flat cs_Ratio s_15974.1⟩)], 5⟩ (by kernel_rfl) (leB rfl) ?_
        refine w_cut h (fun (e_16036 : List D.Ratio × Int) => ⟨[(1, .bm 35 [sl 5 cs_Unit a2]), (2, .fn 43 [.ptr 0 0]), (3, .fn 44 [.ptr 1 0]), (13, I e_16036.2), (14, sl 3 cs_Amount a1), (15, I (a1.length : Int)), (16, I s_15974.2)], [(0, ⟨55, 0, [sl 5 cs_Unit a3]⟩), (1, ⟨24, 0, [.own 2 e_16036.1.length]⟩), (2, ⟨31, 2, flat cs_Ratio e_16036.1⟩)], 3⟩) (fun o h h_16037 K hK_16038 => ?_) (fun e_16036 h => ?_)
        · refine w_ite h (by kernel_rfl) (fun h_16039 h => ?_) (fun h_16039 h => ?_)
          · refine w_reg0 ?_
            refine dd_run 0 3 rfl (by kernel_rfl) ?_
            obtain ⟨x_16040, h_16041, h⟩ := bind_some' h
            refine dd_one 3 (.call ⟨.value (.tmp 32), #[(.tmp 33), (.tmp 34)], #[3, 31]⟩) (some 35) (by kernel_rfl) (o_callE [1, 2] (g_quantity_Basket_2_ok h_16041) (by kernel_rfl) (by kernel_rfl) (by kernel_rfl) rfl) ?_
            refine dd_run 4 5 rfl (by kernel_rfl) ?_
            refine dd_nil 5 rfl ?_
            exact hK_16038 _ _ (Option.some.inj h).symm (to_ren [] (leB rfl) (by kernel_rfl) (by kernel_rfl) (renE_of (by kernel_rfl) (by kernel_rfl)) ⟨reRn (by kernel_rfl) (leB rfl) (by kernel_rfl), ⟨reRn (by kernel_rfl) (leB rfl) (by kernel_rfl), ⟨rePl (by kernel_rfl) (leB rfl) (flat_all _ (fun _ => rfl) _), trivial⟩⟩⟩)
          · refine w_skip ?_
            exact hK_16038 _ _ (Option.some.inj h).symm (to_ren [] (leB rfl) (by kernel_rfl) (by kernel_rfl) (renE_of (by kernel_rfl) (by kernel_rfl)) ⟨reRn (by kernel_rfl) (leB rfl) (by kernel_rfl), ⟨reRn (by kernel_rfl) (leB rfl) (by kernel_rfl), ⟨rePl (by kernel_rfl) (leB rfl) (flat_all _ (fun _ => rfl) _), trivial⟩⟩⟩)
        · refine w_reg ⟨[(1, .bm 35 [sl 5 cs_Unit a2]), (2, .fn 43 [.ptr 0 0]), (3, .fn 44 [.ptr 1 0]), (13, I e_16036.2), (14, sl 3 cs_Amount a1), (15, I (a1.length : Int)), (16, I s_15974.2), (37, B (e_16036.2 != 0))], [(0, ⟨55, 0, [sl 5 cs_Unit a3]⟩), (1, ⟨24, 0, [.own 2 e_16036.1.length]⟩), (2, ⟨31, 2, flat cs_Ratio e_16036.1⟩)], 3⟩ (by kernel_rfl) (leB rfl) ?_
          refine w_ite h (by kernel_rfl) (fun h_16042 h => ?_) (fun h_16042 h => ?_)
          · refine w_reg ⟨[(8, I e_16036.2)], [(0, ⟨55, 0, [sl 5 cs_Unit a3]⟩), (1, ⟨24, 0, [.own 2 e_16036.1.length]⟩), (2, ⟨31, 2, flat cs_Ratio e_16036.1⟩)], 3⟩ (by kernel_rfl) (leB rfl) ?_
            refine w_ret ?_
            obtain rfl := ((h_15838 _ (h_15975 _ (Option.some.inj h).symm).symm).symm).symm
            exact ret_leaf (.inl rfl) ⟨[(8, I e_16036.2)], [(0, ⟨55, 0, [sl 5 cs_Unit a3]⟩), (1, ⟨24, 0, [.own 2 e_16036.1.length]⟩), (2, ⟨31, 2, flat cs_Ratio e_16036.1⟩)], 3⟩ (to_ren [] (leB rfl) (by kernel_rfl) (by kernel_rfl) (renE_of (by kernel_rfl) (by kernel_rfl)) ⟨reRn (by kernel_rfl) (leB rfl) (by kernel_rfl), ⟨reRn (by kernel_rfl) (leB rfl) (by kernel_rfl), ⟨rePl (by kernel_rfl) (leB rfl) (flat_all _ (fun _ => rfl) _), trivial⟩⟩⟩) [I e_16036.2] (by kernel_rfl) (by kernel_rfl) (leB rfl) (by kernel_rfl) ⟨⟨by kernel_rfl, leB rfl, (by kernel_rfl)⟩, ⟨⟨by kernel_rfl, leB rfl, (by kernel_rfl)⟩, ⟨⟨by kernel_rfl, leB rfl, (flat_all _ (fun _ => rfl) _)⟩, trivial⟩⟩⟩
          · refine w_skip ?_
            refine hK_16011 _ ⟨[(1, .bm 35 [sl 5 cs_Unit a2]), (2, .fn 43 [.ptr 0 0]), (3, .fn 44 [.ptr 1 0]), (14, sl 3 cs_Amount a1), (15, I (a1.length : Int)), (16, I s_15974.2)], [(0, ⟨55, 0, [sl 5 cs_Unit a3]⟩), (1, ⟨24, 0, [.own 2 e_16036.1.length]⟩), (2, ⟨31, 2, flat cs_Ratio e_16036.1⟩)], 3⟩ (to_trim (by kernel_rfl) (leB rfl)) ?_
            refine w_reg0 ?_
            refine dd_run 0 2 rfl (by kernel_rfl) ?_
            refine dd_nil 2 rfl ?_
            exact hK_15976 _ _ (Option.some.inj h).symm (to_ren [] (leB rfl) (by kernel_rfl) (by kernel_rfl) (renE_of (by kernel_rfl) (by kernel_rfl)) ⟨reRn (by kernel_rfl) (leB rfl) (by kernel_rfl), ⟨reRn (by kernel_rfl) (leB rfl) (by kernel_rfl), ⟨rePl (by kernel_rfl) (leB rfl) (flat_all _ (fun _ => rfl) _), trivial⟩⟩⟩)
      · refine w_exit ?_
        exact hK_15839 _ _ (h_15975 _ (Option.some.inj h).symm).symm (to_ren [] (leB rfl) (by kernel_rfl) (by kernel_rfl) (renE_of (by kernel_rfl) (by kernel_rfl)) ⟨reRn (by kernel_rfl) (leB rfl) (by kernel_rfl), ⟨reRn (by kernel_rfl) (leB rfl) (by kernel_rfl), ⟨rePl (by kernel_rfl) (leB rfl) (flat_all _ (fun _ => rfl) _), trivial⟩⟩⟩)
  · refine w_reg ⟨[(8, I 0)], [(0, ⟨55, 0, [sl 5 cs_Unit a3]⟩), (1, ⟨24, 0, [.own 2 e_15837.length]⟩), (2, ⟨31, 2, flat cs_Ratio e_15837⟩)], 3⟩ (by kernel_rfl) (leB rfl) ?_
    refine w_ret ?_
    obtain rfl := ((Option.some.inj h).symm).symm
    exact ret_leaf (.inl rfl) ⟨[(8, I 0)], [(0, ⟨55, 0, [sl 5 cs_Unit a3]⟩), (1, ⟨24, 0, [.own 2 e_15837.length]⟩), (2, ⟨31, 2, flat cs_Ratio e_15837⟩)], 3⟩ (to_ren [] (leB rfl) (by kernel_rfl) (by kernel_rfl) (renE_of (by kernel_rfl) (by kernel_rfl)) ⟨reRn (by kernel_rfl) (leB rfl) (by kernel_rfl), ⟨reRn (by kernel_rfl) (leB rfl) (by kernel_rfl), ⟨rePl (by kernel_rfl) (leB rfl) (flat_all _ (fun _ => rfl) _), trivial⟩⟩⟩) [I 0] (by kernel_rfl) (by kernel_rfl) (leB rfl) (by kernel_rfl) ⟨⟨by kernel_rfl, leB rfl, (by kernel_rfl)⟩, ⟨⟨by kernel_rfl, leB rfl, (by kernel_rfl)⟩, ⟨⟨by kernel_rfl, leB rfl, (flat_all _ (fun _ => rfl) _)⟩, trivial⟩⟩⟩
/-- estoppel/quantity.Basket -/
def g_quantity_Basket (a1 : List D.Unit) (a2 : List D.Amount) : Option (List D.Ratio × Int) :=
  (g_estoppel_quantity_table_all a1 a2).bind fun x_16054 =>
  if (!x_16054) = true then
  some ([], 1)
  else
  (makeO 16 (D.Ratio.mk 0 0) (a1.length : Int) (a1.length : Int)).bind fun x_16066 =>
  bindF (ρ := List D.Ratio) (
  loopO (σ := List D.Ratio × Int) (fun s_16136 =>
  if (decide (s_16136.2 < (x_16066.length : Int))) = true then
  (getI s_16136.1 s_16136.2).bind fun x_16149 =>
  some (.inl ((setI s_16136.1 s_16136.2 (D.Ratio.mk 0 1)), (IntKind.i64.wrap (s_16136.2 + 1))))
  else
  some (.inr (.inl s_16136.1))) (x_16066, 0)) (fun (e_16107 : List D.Ratio) =>
  (g_quantity_gather_value_Basket_1_Basket_2 a2 a1 a1 e_16107).bind fun x_16154 =>
  if (x_16154.2 != 0) = true then
  some ([], x_16154.2)
  else
  some (x_16154.1, 0))
set_option maxHeartbeats 4000000 in
theorem g_quantity_Basket_ok {a1 : List D.Unit} {a2 : List D.Amount} {res : List D.Ratio × Int} (h : g_quantity_Basket a1 a2 = some res) : SpecK Tryd.prog [] 21 [sl 5 cs_Unit a1, sl 3 cs_Amount a2] [] 0 (.tup [sl 2 cs_Ratio res.1, I res.2]) [] 0 := by
  refine ⟨spec_of_wp Tryd.func21 (by kernel_rfl) rfl Tryd.ntmps21 (by rw [Tryd.results21]) (leB rfl) ?_, by kernel_rfl, trivial, by kernel_rfl, trivial, by kernel_rfl⟩
  unfold g_quantity_Basket at h
  refine w_reg ⟨[(0, sl 5 cs_Unit a1), (1, sl 3 cs_Amount a2)], [], 0⟩ (by kernel_rfl) (leB rfl) ?_
  refine w_reg ⟨[(1, sl 3 cs_Amount a2), (6, .ptr 0 0)], [(0, ⟨55, 0, [sl 5 cs_Unit a1]⟩)], 1⟩ (by kernel_rfl) (leB rfl) ?_
  refine w_assoc ?_
  refine w_seq (fun K hK_16053 => w_reg0 ?_)
  refine dd_run 0 2 rfl (by kernel_rfl) ?_
  obtain ⟨x_16054, h_16055, h⟩ := bind_some' h
  refine dd_one 2 (.call ⟨.value (.func 38), #[(.tmp 11), (.tmp 12)], #[55, 23]⟩) (some 13) (by kernel_rfl) (o_callP (g_estoppel_quantity_table_all_ok h_16055) (by kernel_rfl) rfl) ?_
  refine ops_fin' hK_16053 ⟨[(1, sl 3 cs_Amount a2), (6, .ptr 0 0), (14, B (!x_16054))], [(0, ⟨55, 0, [sl 5 cs_Unit a1]⟩)], 1⟩ (by kernel_rfl) (leB rfl) ?_
  refine w_seq (fun K hK_16057 => ?_)
  refine w_ite h (by kernel_rfl) (fun h_16058 h => ?_) (fun h_16058 h => ?_)
  · refine w_reg ⟨[(4, Nl), (5, I 1)], [(0, ⟨55, 0, [sl 5 cs_Unit a1]⟩)], 1⟩ (by kernel_rfl) (leB rfl) ?_
    refine w_ret ?_
    obtain rfl := ((Option.some.inj h).symm).symm
    exact ret_leaf (.inl rfl) ⟨[(4, sl 2 cs_Ratio []), (5, I 1)], [], 0⟩ (to_trans (to_put 4 (leB rfl) (by kernel_rfl) (Sub.nil 2)) (to_ren [] (leB rfl) (by kernel_rfl) (by kernel_rfl) (renE_of (by kernel_rfl) (by kernel_rfl)) trivial)) [sl 2 cs_Ratio [], I 1] (by kernel_rfl) (by kernel_rfl) (leB rfl) (by kernel_rfl) trivial
  · refine w_skip ?_
    refine hK_16057 _ ⟨[(1, sl 3 cs_Amount a2), (6, .ptr 0 0)], [(0, ⟨55, 0, [sl 5 cs_Unit a1]⟩)], 1⟩ (to_trim (by kernel_rfl) (leB rfl)) ?_
    refine w_seq (fun K hK_16063 => w_reg0 ?_)
    refine dd_run 0 1 rfl (by kernel_rfl) ?_
    refine dd_one 1 (.call ⟨.builtin .len, #[(.tmp 15)], #[55]⟩) (some 16) (by kernel_rfl) (o_pure (I (a1.length : Int)) (ev_len_sl (e := 42) (ty := 0) (k := 5) (c := cs_Unit) (by kernel_rfl) (by kernel_rfl)) rfl) ?_
    obtain ⟨x_16066, h_16067, h⟩ := bind_some' h
    refine dd_one 2 (.makeSlice 24 (.tmp 16) (.tmp 16)) (some 17) (by kernel_rfl) (o_heap (.own 1 x_16066.length) [(1, ⟨31, 2, flat cs_Ratio x_16066⟩), (0, ⟨55, 0, [sl 5 cs_Unit a1]⟩)] 2 (by kernel_rfl) (hv_make (e := 31) (k := 2) (c := cs_Ratio) (ik := .i64) (jk := .i64) h_16067 (by kernel_rfl) (by kernel_rfl) (by kernel_rfl) (by kernel_rfl) (leB rfl) rfl (by kernel_rfl) (by kernel_rfl)) rfl) ?_
    refine ops_fin' hK_16063 ⟨[(1, sl 3 cs_Amount a2), (6, .ptr 0 0), (7, .ptr 2 0)], [(2, ⟨24, 0, [.own 1 x_16066.length]⟩), (1, ⟨31, 2, flat cs_Ratio x_16066⟩), (0, ⟨55, 0, [sl 5 cs_Unit a1]⟩)], 3⟩ (by kernel_rfl) (leB rfl) ?_
    refine w_assoc ?_
    refine w_reg ⟨[(1, sl 3 cs_Amount a2), (6, .ptr 0 0), (7, .ptr 2 0), (19, I (x_16066.length : Int)), (20, I 0)], [(2, ⟨24, 0, [.own 1 x_16066.length]⟩), (1, ⟨31, 2, flat cs_Ratio x_16066⟩), (0, ⟨55, 0, [sl 5 cs_Unit a1]⟩)], 3⟩ (by kernel_rfl) (leB rfl) ?_
    refine w_cut h (fun (e_16107 : List D.Ratio) => ⟨[(1, sl 3 cs_Amount a2), (6, .ptr 0 0), (7, .ptr 1 0)], [(0, ⟨55, 0, [sl 5 cs_Unit a1]⟩), (1, ⟨24, 0, [.own 2 e_16107.length]⟩), (2, ⟨31, 2, flat cs_Ratio e_16107⟩)], 3⟩) (fun o h h_16108 K hK_16109 => ?_) (fun e_16107 h => ?_)
    · refine w_block ?_
      refine w_loopO h (fun (s_16136 : List D.Ratio × Int) => ⟨[(1, sl 3 cs_Amount a2), (6, .ptr 0 0), (7, .ptr 1 0), (19, I (x_16066.length : Int)), (20, I s_16136.2)], [(0, ⟨55, 0, [sl 5 cs_Unit a1]⟩), (1, ⟨24, 0, [.own 2 s_16136.1.length]⟩), (2, ⟨31, 2, flat cs_Ratio s_16136.1⟩)], 3⟩) (to_ren [(1, 2), (2, 1)] (leB rfl) (by kernel_rfl) (by kernel_rfl) (renE_of (by kernel_rfl) (by kernel_rfl)) ⟨reRn (by kernel_rfl) (leB rfl) (by kernel_rfl), ⟨reRn (by kernel_rfl) (leB rfl) (by kernel_rfl), ⟨rePl (by kernel_rfl) (leB rfl) (flat_all _ (fun _ => rfl) _), trivial⟩⟩⟩) (fun s_16136 o h h_16137 K hK_16138 => ?_)
      · refine w_reg ⟨[(1, sl 3 cs_Amount a2), (6, .ptr 0 0), (7, .ptr 1 0), (19, I (x_16066.length : Int)), (20, I s_16136.2), (21, B (decide (s_16136.2 < (x_16066.length : Int))))], [(0, ⟨55, 0, [sl 5 cs_Unit a1]⟩), (1, ⟨24, 0, [.own 2 s_16136.1.length]⟩), (2, ⟨31, 2, flat cs_Ratio s_16136.1⟩)], 3⟩ (by kernel_rfl) (leB rfl) ?_
        refine w_seq (fun K hK_16140 => ?_)
        refine w_ite h (by kernel_rfl) (fun h_16141 h => ?_) (fun h_16141 h => ?_)
        · refine w_skip ?_
          refine hK_16140 _ ⟨[(1, sl 3 cs_Amount a2), (6, .ptr 0 0), (7, .ptr 1 0), (19, I (x_16066.length : Int)), (20, I s_16136.2)], [(0, ⟨55, 0, [sl 5 cs_Unit a1]⟩), (1, ⟨24, 0, [.own 2 s_16136.1.length]⟩), (2, ⟨31, 2, flat cs_Ratio s_16136.1⟩)], 3⟩ (to_trim (by kernel_rfl) (leB rfl)) ?_
          refine w_seq (fun K hK_16146 => ?_)
          refine w_block ?_
          refine w_reg ⟨[(1, sl 3 cs_Amount a2), (6, .ptr 0 0), (7, .ptr 1 0), (8, I s_16136.2), (19, I (x_16066.length : Int)), (20, I s_16136.2)], [(0, ⟨55, 0, [sl 5 cs_Unit a1]⟩), (1, ⟨24, 0, [.own 2 s_16136.1.length]⟩), (2, ⟨31, 2, flat cs_Ratio s_16136.1⟩)], 3⟩ (by kernel_rfl) (leB rfl) ?_
          refine w_reg0 ?_
          refine dd_run 0 3 rfl (by kernel_rfl) ?_
          obtain ⟨x_16149, h_16150, h⟩ := bind_some' h
          refine dd_one 3 (.indexAddr 24 (.tmp 23) (.tmp 24)) (some 26) (by kernel_rfl) (o_pure (.ptr 2 (s_16136.2.toNat * 2)) (ev_idx_own (N := s_16136.1.length) (e := 31) (k := 2) (ik := .i64) h_16150 rfl (by kernel_rfl) (by kernel_rfl) (by kernel_rfl) (by kernel_rfl)) rfl) ?_
          refine dd_one 4 (.store 31 (.tmp 26) (.tmp 25)) none (by kernel_rfl) (o_heap (U) [(0, ⟨55, 0, [sl 5 cs_Unit a1]⟩), (1, ⟨24, 0, [.own 2 s_16136.1.length]⟩), (2, ⟨31, 2, flat cs_Ratio (setI s_16136.1 s_16136.2 (D.Ratio.mk 0 1))⟩)] 3 (by kernel_rfl) (hv_store_row (o := s_16136.2.toNat * 2) (b := 2) (y := .agg [I 0, I 1]) (i := s_16136.2.toNat) (j := 0) (k := 2) (s := 2) (c := cs_Ratio) (a' := (D.Ratio.mk 0 1)) (sz := 2) (ty := 31) (fun _ => rfl) (getI_some h_16150).2 rfl (by kernel_rfl) (by kernel_rfl) (by kernel_rfl) (by kernel_rfl) (by kernel_rfl) (by kernel_rfl) (leB rfl) (by kernel_rfl)) rfl) ?_
          refine dd_nil 5 rfl ?_
          refine hK_16146 _ ⟨[(1, sl 3 cs_Amount a2), (6, .ptr 0 0), (7, .ptr 1 0), (19, I (x_16066.length : Int)), (20, I s_16136.2)], [(0, ⟨55, 0, [sl 5 cs_Unit a1]⟩), (1, ⟨24, 0, [.own 2 s_16136.1.length]⟩), (2, ⟨31, 2, flat cs_Ratio (setI s_16136.1 s_16136.2 (D.Ratio.mk 0 1))⟩)], 3⟩ (to_trim (by kernel_rfl) (leB rfl)) ?_
          refine w_reg0 ?_
          refine dd_run 0 2 rfl (by kernel_rfl) ?_
          refine dd_nil 2 rfl ?_
          exact hK_16138 _ _ (Option.some.inj h).symm (to_trans (to_cell 1 0 (q := ⟨24, 0, [.own 2 s_16136.1.length]⟩) (leB rfl) (by kernel_rfl) (by kernel_rfl) (Sub.of_eq (show AV.own 2 s_16136.1.length = AV.own 2 (setI s_16136.1 s_16136.2 (D.Ratio.mk 0 1)).length by simp [setI]))) (to_ren [] (leB rfl) (by kernel_rfl) (by kernel_rfl) (renE_of (by kernel_rfl) (by kernel_rfl)) ⟨reRn (by kernel_rfl) (leB rfl) (by kernel_rfl), ⟨reRn (by kernel_rfl) (leB rfl) (by kernel_rfl), ⟨rePl (by kernel_rfl) (leB rfl) (flat_all _ (fun _ => rfl) _), trivial⟩⟩⟩))
        · refine w_exit ?_
          exact hK_16109 _ _ (h_16137 _ (Option.some.inj h).symm).symm (to_ren [] (leB rfl) (by kernel_rfl) (by kernel_rfl) (renE_of (by kernel_rfl) (by kernel_rfl)) ⟨reRn (by kernel_rfl) (leB rfl) (by kernel_rfl), ⟨reRn (by kernel_rfl) (leB rfl) (by kernel_rfl), ⟨rePl (by kernel_rfl) (leB rfl) (flat_all _ (fun _ => rfl) _), trivial⟩⟩⟩)
    · refine w_seq (fun K hK_16153 => w_reg0 ?_)
      refine dd_run 0 5 rfl (by kernel_rfl) ?_
      obtain ⟨x_16154, h_16155, h⟩ := bind_some' h
      refine dd_one 5 (.call ⟨.value (.func 39), #[(.tmp 28), (.tmp 30), (.tmp 31), (.tmp 32)], #[23, 62, 67, 68]⟩) (some 33) (by kernel_rfl) (o_callE [0, 1, 2] (g_quantity_gather_value_Basket_1_Basket_2_ok h_16155) (by kernel_rfl) (by kernel_rfl) (by kernel_rfl) rfl) ?_
      refine ops_fin' hK_16153 ⟨[(7, .ptr 1 0), (9, I x_16154.2)], [(0, ⟨55, 0, [sl 5 cs_Unit a1]⟩), (1, ⟨24, 0, [.own 2 x_16154.1.length]⟩), (2, ⟨31, 2, flat cs_Ratio x_16154.1⟩)], 3⟩ (by kernel_rfl) (leB rfl) ?_
      refine w_assoc ?_
      refine w_reg ⟨[(7, .ptr 1 0), (9, I x_16154.2), (35, B (x_16154.2 != 0))], [(0, ⟨55, 0, [sl 5 cs_Unit a1]⟩), (1, ⟨24, 0, [.own 2 x_16154.1.length]⟩), (2, ⟨31, 2, flat cs_Ratio x_16154.1⟩)], 3⟩ (by kernel_rfl) (leB rfl) ?_
      refine w_seq (fun K hK_16157 => ?_)
      refine w_ite h (by kernel_rfl) (fun h_16158 h => ?_) (fun h_16158 h => ?_)
      · refine w_reg ⟨[(4, Nl), (5, I x_16154.2)], [(0, ⟨55, 0, [sl 5 cs_Unit a1]⟩), (1, ⟨24, 0, [.own 2 x_16154.1.length]⟩), (2, ⟨31, 2, flat cs_Ratio x_16154.1⟩)], 3⟩ (by kernel_rfl) (leB rfl) ?_
        refine w_ret ?_
        obtain rfl := ((Option.some.inj h).symm).symm
        exact ret_leaf (.inl rfl) ⟨[(4, sl 2 cs_Ratio []), (5, I x_16154.2)], [], 0⟩ (to_trans (to_put 4 (leB rfl) (by kernel_rfl) (Sub.nil 2)) (to_ren [] (leB rfl) (by kernel_rfl) (by kernel_rfl) (renE_of (by kernel_rfl) (by kernel_rfl)) trivial)) [sl 2 cs_Ratio [], I x_16154.2] (by kernel_rfl) (by kernel_rfl) (leB rfl) (by kernel_rfl) trivial
      · refine w_skip ?_
        refine hK_16157 _ ⟨[(7, .ptr 1 0)], [(0, ⟨55, 0, [sl 5 cs_Unit a1]⟩), (1, ⟨24, 0, [.own 2 x_16154.1.length]⟩), (2, ⟨31, 2, flat cs_Ratio x_16154.1⟩)], 3⟩ (to_trim (by kernel_rfl) (leB rfl)) ?_
        refine w_reg ⟨[(4, .own 2 x_16154.1.length), (5, I 0)], [(0, ⟨55, 0, [sl 5 cs_Unit a1]⟩), (1, ⟨24, 0, [.own 2 x_16154.1.length]⟩), (2, ⟨31, 2, flat cs_Ratio x_16154.1⟩)], 3⟩ (by kernel_rfl) (leB rfl) ?_
        refine w_ret ?_
        obtain rfl := ((Option.some.inj h).symm).symm
        exact ret_leaf (.inl rfl) ⟨[(4, sl 2 cs_Ratio x_16154.1), (5, I 0)], [], 0⟩ (to_trans (to_freeze 4 2 x_16154.1.length ⟨31, 2, flat cs_Ratio x_16154.1⟩ (x_16154.1.map cs_Ratio) (leB rfl) (by kernel_rfl) (by kernel_rfl) (leB rfl) (by simp [setI]) rfl (fun e he => by obtain ⟨x, _, rfl⟩ := List.mem_map.1 he; rfl) (fun e he a ha => by obtain ⟨x, _, rfl⟩ := List.mem_map.1 he; exact all_and (fun _ => rfl) (fun _ => rfl) x a ha)) (to_ren [] (leB rfl) (by kernel_rfl) (by kernel_rfl) (renE_of (by kernel_rfl) (by kernel_rfl)) trivial)) [sl 2 cs_Ratio x_16154.1, I 0] (by kernel_rfl) (by kernel_rfl) (leB rfl) (by kernel_rfl) trivial
/-- estoppel/quantity.Covers -/
def g_quantity_Covers (a1 : List D.Ratio) (a2 : List D.Ratio) : Option (Bool) :=
  if ((a1.length : Int) != (a2.length : Int)) = true then
  some false
  else
  bindF (ρ := Unit) (
  loopO (σ := Int) (fun s_17156 =>
  if (decide (s_17156 < (a1.length : Int))) = true then
  (getI a1 s_17156).bind fun x_17214 =>
  (getI a2 s_17156).bind fun x_17225 =>
  bindF (ρ := Bool) (
  (g_ratio_Valid x_17214).bind fun x_17238 =>
  if (!x_17238) = true then
  some (.inl true)
  else
  (g_ratio_Valid x_17225).bind fun x_17241 =>
  if (!x_17241) = true then
  some (.inl true)
  else
  (g_ratio_Cmp x_17214 x_17225).bind fun x_17244 =>
  some (.inl (decide (x_17244 < 0)))) (fun (e_17235 : Bool) =>
  if e_17235 = true then
  some (.inr (.inr false))
  else
  some (.inl (IntKind.i64.wrap (s_17156 + 1))))
  else
  some (.inr (.inl ()))) 0) (fun (e_16975 : Unit) =>
  some true)
set_option maxHeartbeats 4000000 in
theorem g_quantity_Covers_ok {a1 : List D.Ratio} {a2 : List D.Ratio} {res : Bool} (h : g_quantity_Covers a1 a2 = some res) : SpecK Tryd.prog [] 15 [sl 2 cs_Ratio a1, sl 2 cs_Ratio a2] [] 0 (B res) [] 0 := by
  refine ⟨spec_of_wp Tryd.func15 (by kernel_rfl) rfl Tryd.ntmps15 (by rw [Tryd.results15]) (leB rfl) ?_, by kernel_rfl, trivial, by kernel_rfl, trivial, by kernel_rfl⟩
  unfold g_quantity_Covers at h
  refine w_reg ⟨[(0, sl 2 cs_Ratio a1), (1, sl 2 cs_Ratio a2)], [], 0⟩ (by kernel_rfl) (leB rfl) ?_
  refine w_assoc ?_
  refine w_seq (fun K hK_16703 => w_reg0 ?_)
  refine dd_run 0 1 rfl (by kernel_rfl) ?_
  refine dd_one 1 (.call ⟨.builtin .len, #[(.tmp 8)], #[24]⟩) (some 9) (by kernel_rfl) (o_pure (I (a1.length : Int)) (ev_len_sl (e := 31) (ty := 0) (k := 2) (c := cs_Ratio) (by kernel_rfl) (by kernel_rfl)) rfl) ?_
  refine dd_run 2 3 rfl (by kernel_rfl) ?_
  refine dd_one 3 (.call ⟨.builtin .len, #[(.tmp 10)], #[24]⟩) (some 11) (by kernel_rfl) (o_pure (I (a2.length : Int)) (ev_len_sl (e := 31) (ty := 0) (k := 2) (c := cs_Ratio) (by kernel_rfl) (by kernel_rfl)) rfl) ?_
  refine ops_fin' hK_16703 ⟨[(0, sl 2 cs_Ratio a1), (1, sl 2 cs_Ratio a2), (12, B ((a1.length : Int) != (a2.length : Int)))], [], 0⟩ (by kernel_rfl) (leB rfl) ?_
  refine w_seq (fun K hK_16705 => ?_)
  refine w_ite h (by kernel_rfl) (fun h_16706 h => ?_) (fun h_16706 h => ?_)
  · refine w_reg ⟨[(4, B false)], [], 0⟩ (by kernel_rfl) (leB rfl) ?_
    refine w_ret ?_
    obtain rfl := ((Option.some.inj h).symm).symm
    exact ret_leaf (.inl rfl) ⟨[(4, B false)], [], 0⟩ (to_ren [] (leB rfl) (by kernel_rfl) (by kernel_rfl) (renE_of (by kernel_rfl) (by kernel_rfl)) trivial) [B false] (by kernel_rfl) (by kernel_rfl) (leB rfl) (by kernel_rfl) trivial
  · refine w_skip ?_
    refine hK_16705 _ ⟨[(0, sl 2 cs_Ratio a1), (1, sl 2 cs_Ratio a2)], [], 0⟩ (to_trim (by kernel_rfl) (leB rfl)) ?_
    refine w_assoc ?_
    refine w_seq (fun K hK_16707 => w_reg0 ?_)
    refine dd_run 0 1 rfl (by kernel_rfl) ?_
    refine dd_one 1 (.call ⟨.builtin .len, #[(.tmp 13)], #[24]⟩) (some 14) (by kernel_rfl) (o_pure (I (a1.length : Int)) (ev_len_sl (e := 31) (ty := 0) (k := 2) (c := cs_Ratio) (by kernel_rfl) (by kernel_rfl)) rfl) ?_
    refine ops_fin' hK_16707 ⟨[(1, sl 2 cs_Ratio a2), (13, sl 2 cs_Ratio a1), (14, I (a1.length : Int)), (15, I 0)], [], 0⟩ (by kernel_rfl) (leB rfl) ?_
    refine w_cut h (fun (e_16975 : Unit) => ⟨[], [], 0⟩) (fun o h h_16976 K hK_16977 => ?_) (fun e_16975 h => ?_)
    · refine w_block ?_
      refine w_loopO h (fun (s_17156 : Int) => ⟨[(1, sl 2 cs_Ratio a2), (13, sl 2 cs_Ratio a1), (14, I (a1.length : Int)), (15, I s_17156)], [], 0⟩) (to_ren [] (leB rfl) (by kernel_rfl) (by kernel_rfl) (renE_of (by kernel_rfl) (by kernel_rfl)) trivial) (fun s_17156 o h h_17157 K hK_17158 => ?_)
      · refine w_reg ⟨[(1, sl 2 cs_Ratio a2), (13, sl 2 cs_Ratio a1), (14, I (a1.length : Int)), (15, I s_17156), (16, B (decide (s_17156 < (a1.length : Int))))], [], 0⟩ (by kernel_rfl) (leB rfl) ?_
        refine w_seq (fun K hK_17160 => ?_)
        refine w_ite h (by kernel_rfl) (fun h_17161 h => ?_) (fun h_17161 h => ?_)
        · refine w_skip ?_
          refine hK_17160 _ ⟨[(1, sl 2 cs_Ratio a2), (13, sl 2 cs_Ratio a1), (14, I (a1.length : Int)), (15, I s_17156)], [], 0⟩ (to_trim (by kernel_rfl) (leB rfl)) ?_
          refine w_seq (fun K hK_17204 => ?_)
          refine w_block ?_
          refine w_seq (fun K hK_17211 => w_reg0 ?_)
          refine dd_run 0 1 rfl (by kernel_rfl) ?_
          obtain ⟨x_17214, h_17215, h⟩ := bind_some' h
          refine dd_one 1 (.indexAddr 24 (.tmp 13) (.tmp 15)) (some 18) (by kernel_rfl) (o_pure (.ip (cs_Ratio x_17214)) (ev_idx_sl (e := 31) (k := 2) (c := cs_Ratio) (ik := .i64) h_17215 (by kernel_rfl) (by kernel_rfl) (by kernel_rfl) (by kernel_rfl)) rfl) ?_
          refine ops_fin' hK_17211 ⟨[(1, sl 2 cs_Ratio a2), (5, I s_17156), (6, .ptr 0 0), (13, sl 2 cs_Ratio a1), (14, I (a1.length : Int)), (15, I s_17156)], [(0, ⟨31, 0, (cs_Ratio x_17214)⟩)], 1⟩ (by kernel_rfl) (leB rfl) ?_
          refine w_seq (fun K hK_17222 => w_reg0 ?_)
          refine dd_run 0 2 rfl (by kernel_rfl) ?_
          obtain ⟨x_17225, h_17226, h⟩ := bind_some' h
          refine dd_one 2 (.indexAddr 24 (.tmp 20) (.tmp 21)) (some 22) (by kernel_rfl) (o_pure (.ip (cs_Ratio x_17225)) (ev_idx_sl (e := 31) (k := 2) (c := cs_Ratio) (ik := .i64) h_17226 (by kernel_rfl) (by kernel_rfl) (by kernel_rfl) (by kernel_rfl)) rfl) ?_
          refine ops_fin' hK_17222 ⟨[(1, sl 2 cs_Ratio a2), (6, .ptr 0 0), (7, .ptr 1 0), (13, sl 2 cs_Ratio a1), (14, I (a1.length : Int)), (15, I s_17156)], [(1, ⟨31, 0, (cs_Ratio x_17225)⟩), (0, ⟨31, 0, (cs_Ratio x_17214)⟩)], 2⟩ (by kernel_rfl) (leB rfl) ?_
          refine w_cut h (fun (e_17235 : Bool) => ⟨[(1, sl 2 cs_Ratio a2), (13, sl 2 cs_Ratio a1), (14, I (a1.length : Int)), (15, I s_17156), (37, B e_17235)], [], 0⟩) (fun o h h_17236 K hK_17237 => ?_) (fun e_17235 h => ?_)
          · refine w_reg0 ?_
            refine dd_run 0 1 rfl (by kernel_rfl) ?_
            obtain ⟨x_17238, h_17239, h⟩ := bind_some' h
            refine dd_one 1 (.call ⟨.value (.func 24), #[(.tmp 24)], #[31]⟩) (some 25) (by kernel_rfl) (o_callP (g_ratio_Valid_ok h_17239) (by kernel_rfl) rfl) ?_
            refine dd_run 2 4 rfl (by kernel_rfl) ?_
            refine ite_both h (fun h_17240 h => ?_) (fun h_17240 h => ?_)
            · refine dd_skip 4 7 3 false rfl (b := (!x_17238)) (by kernel_rfl) h_17240 (by kernel_rfl) ?_
              refine dd_one 7 (.pick (.tmp 27) (.const (.bool true)) (.tmp 30)) (some 31) (by kernel_rfl) (o_pure (B true) (ev_pickT h_17240 (by kernel_rfl) (by kernel_rfl)) rfl) ?_
              refine dd_run 8 9 rfl (by kernel_rfl) ?_
              refine dd_skip 9 13 8 false rfl (b := true) (by kernel_rfl) rfl (by kernel_rfl) ?_
              refine dd_run 13 14 rfl (by kernel_rfl) ?_
              refine dd_nil 14 rfl ?_
              exact hK_17237 _ _ (Option.some.inj h).symm (to_ren [] (leB rfl) (by kernel_rfl) (by kernel_rfl) (renE_of (by kernel_rfl) (by kernel_rfl)) trivial)
            · refine dd_runG 4 5 3 false rfl (b := (!x_17238)) (by kernel_rfl) h_17240 (by kernel_rfl) ?_
              obtain ⟨x_17241, h_17242, h⟩ := bind_some' h
              refine dd_oneG 5 (.call ⟨.value (.func 24), #[(.tmp 28)], #[31]⟩) (some 29) 3 false (b := (!x_17238)) (by kernel_rfl) (by kernel_rfl) h_17240 (o_callP (g_ratio_Valid_ok h_17242) (by kernel_rfl) rfl) ?_
              refine dd_runG 6 7 3 false rfl (b := (!x_17238)) (by kernel_rfl) h_17240 (by kernel_rfl) ?_
              refine dd_one 7 (.pick (.tmp 27) (.const (.bool true)) (.tmp 30)) (some 31) (by kernel_rfl) (o_pure (B (!x_17241)) (ev_pickF h_17240 (by kernel_rfl) (by kernel_rfl)) rfl) ?_
              refine dd_run 8 9 rfl (by kernel_rfl) ?_
              refine ite_both h (fun h_17243 h => ?_) (fun h_17243 h => ?_)
              · refine dd_skip 9 13 8 false rfl (b := (!x_17241)) (by kernel_rfl) h_17243 (by kernel_rfl) ?_
                refine dd_one 13 (.pick (.tmp 32) (.const (.bool true)) (.tmp 36)) (some 37) (by kernel_rfl) (o_pure (B true) (ev_pickT h_17243 (by kernel_rfl) (by kernel_rfl)) rfl) ?_
                refine dd_nil 14 rfl ?_
                exact hK_17237 _ _ (Option.some.inj h).symm (to_ren [] (leB rfl) (by kernel_rfl) (by kernel_rfl) (renE_of (by kernel_rfl) (by kernel_rfl)) trivial)
              · refine dd_runG 9 11 8 false rfl (b := (!x_17241)) (by kernel_rfl) h_17243 (by kernel_rfl) ?_
                obtain ⟨x_17244, h_17245, h⟩ := bind_some' h
                refine dd_oneG 11 (.call ⟨.value (.func 30), #[(.tmp 33), (.tmp 34)], #[31, 31]⟩) (some 35) 8 false (b := (!x_17241)) (by kernel_rfl) (by kernel_rfl) h_17243 (o_callP (g_ratio_Cmp_ok h_17245) (by kernel_rfl) rfl) ?_
                refine dd_runG 12 13 8 false rfl (b := (!x_17241)) (by kernel_rfl) h_17243 (by kernel_rfl) ?_
                refine dd_one 13 (.pick (.tmp 32) (.const (.bool true)) (.tmp 36)) (some 37) (by kernel_rfl) (o_pure (B (decide (x_17244 < 0))) (ev_pickF h_17243 (by kernel_rfl) (by kernel_rfl)) rfl) ?_
                refine dd_nil 14 rfl ?_
                exact hK_17237 _ _ (Option.some.inj h).symm (to_ren [] (leB rfl) (by kernel_rfl) (by kernel_rfl) (renE_of (by kernel_rfl) (by kernel_rfl)) trivial)
          · refine w_ite h (by kernel_rfl) (fun h_17246 h => ?_) (fun h_17246 h => ?_)
            · refine w_reg ⟨[(4, B false)], [], 0⟩ (by kernel_rfl) (leB rfl) ?_
              refine w_ret ?_
              obtain rfl := ((h_16976 _ (h_17157 _ (Option.some.inj h).symm).symm).symm).symm
              exact ret_leaf (.inl rfl) ⟨[(4, B false)], [], 0⟩ (to_ren [] (leB rfl) (by kernel_rfl) (by kernel_rfl) (renE_of (by kernel_rfl) (by kernel_rfl)) trivial) [B false] (by kernel_rfl) (by kernel_rfl) (leB rfl) (by kernel_rfl) trivial
            · refine w_skip ?_
              refine hK_17204 _ ⟨[(1, sl 2 cs_Ratio a2), (13, sl 2 cs_Ratio a1), (14, I (a1.length : Int)), (15, I s_17156)], [], 0⟩ (to_trim (by kernel_rfl) (leB rfl)) ?_
              refine w_reg0 ?_
              refine dd_run 0 2 rfl (by kernel_rfl) ?_
              refine dd_nil 2 rfl ?_
              exact hK_17158 _ _ (Option.some.inj h).symm (to_ren [] (leB rfl) (by kernel_rfl) (by kernel_rfl) (renE_of (by kernel_rfl) (by kernel_rfl)) trivial)
        · refine w_exit ?_
          exact hK_16977 _ _ (h_17157 _ (Option.some.inj h).symm).symm (to_ren [] (leB rfl) (by kernel_rfl) (by kernel_rfl) (renE_of (by kernel_rfl) (by kernel_rfl)) trivial)
    · refine w_reg ⟨[(4, B true)], [], 0⟩ (by kernel_rfl) (leB rfl) ?_
      refine w_ret ?_
      obtain rfl := ((Option.some.inj h).symm).symm
      exact ret_leaf (.inl rfl) ⟨[(4, B true)], [], 0⟩ (to_ren [] (leB rfl) (by kernel_rfl) (by kernel_rfl) (renE_of (by kernel_rfl) (by kernel_rfl)) trivial) [B true] (by kernel_rfl) (by kernel_rfl) (leB rfl) (by kernel_rfl) trivial
end Go.Proofs.YtdfokoapenhalaaDoor.Ab
