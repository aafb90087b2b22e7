/- Functions of the program as plain functions (printed by wip/dec.py). -/
import Derived.Test.YtdfokoapenhalaaDoorDq1
import Derived.Test.YtdfokoapenhalaaDoorDq3
import Derived.Test.YtdfokoapenhalaaDoorDq5
import Derived.Test.YtdfokoapenhalaaDoorDq13
namespace Go.Proofs.YtdfokoapenhalaaDoor.Ab
open Go Go.RowKit Go.Shelf
/-- (estoppel/quantity.table).has -/
def g_estoppel_quantity_table_has_o (a1 : List D.Unit) (a2 : D.Amount) : Option (Bool) :=
  (g_estoppel_quantity_table_at_o a1 a2.Unit).bind fun x_40078 =>
  if x_40078.2 = true then
  (g_ratio_Valid a2.Value).bind fun x_40085 =>
  some x_40085
  else
  some false
set_option maxHeartbeats 4000000 in
theorem g_estoppel_quantity_table_has_o_ok {a1 : List D.Unit} {a2 : D.Amount} {res : Bool} (h : g_estoppel_quantity_table_has_o a1 a2 = some res) : SpecK Tryd.prog [0] 34 [.own 0 a1.length, .agg (cs_Amount a2)] [(0, ⟨42, 5, flat cs_Unit a1⟩)] 1 (B res) [(0, ⟨42, 5, flat cs_Unit a1⟩)] 1 := by
  refine ⟨spec_of_wp Tryd.func34 (by kernel_rfl) rfl Tryd.ntmps34 (by rw [Tryd.results34]) (leB rfl) ?_, by kernel_rfl, ⟨⟨leB rfl, flat_all (AV.keyed 0 4) (fun _ => rfl) _⟩, trivial⟩, by kernel_rfl, ⟨⟨leB rfl, flat_all (AV.keyed 0 4) (fun _ => rfl) _⟩, trivial⟩, by kernel_rfl⟩
  unfold g_estoppel_quantity_table_has_o at h
  refine w_reg ⟨[(0, .own 0 a1.length), (3, .ip (cs_Amount a2))], [(0, ⟨42, 5, flat cs_Unit a1⟩)], 1⟩ (by kernel_rfl) (leB rfl) ?_
  refine w_seq (fun K hK_40077 => w_reg0 ?_)
  refine dd_run 0 3 rfl (by kernel_rfl) ?_
  obtain ⟨x_40078, h_40079, h⟩ := bind_some' h
  refine dd_one 3 (.call ⟨.value (.func 33), #[(.tmp 8), (.tmp 10)], #[55, 3]⟩) (some 11) (by kernel_rfl) (o_callE [0] (g_estoppel_quantity_table_at_o_ok h_40079) (by kernel_rfl) (by kernel_rfl) (by kernel_rfl) rfl) ?_
  refine ops_fin' hK_40077 ⟨[(3, .ip (cs_Amount a2)), (6, B x_40078.2)], [(1, ⟨42, 0, (cs_Unit x_40078.1)⟩), (0, ⟨42, 5, flat cs_Unit a1⟩)], 2⟩ (by kernel_rfl) (leB rfl) ?_
  refine w_seq (fun K hK_40083 => w_reg0 ?_)
  refine dd_run 0 2 rfl (by kernel_rfl) ?_
  refine ite_both h (fun h_40084 h => ?_) (fun h_40084 h => ?_)
  · refine dd_runG 2 4 1 true rfl (b := x_40078.2) (by kernel_rfl) h_40084 (by kernel_rfl) ?_
    obtain ⟨x_40085, h_40086, h⟩ := bind_some' h
    refine dd_oneG 4 (.call ⟨.value (.func 24), #[(.tmp 17)], #[31]⟩) (some 18) 1 true (b := x_40078.2) (by kernel_rfl) (by kernel_rfl) h_40084 (o_callP (g_ratio_Valid_ok h_40086) (by kernel_rfl) rfl) ?_
    refine dd_one 5 (.pick (.tmp 15) (.tmp 18) (.const (.bool false))) (some 19) (by kernel_rfl) (o_pure (B x_40085) (ev_pickT h_40084 (by kernel_rfl) (by kernel_rfl)) rfl) ?_
    refine ops_fin' hK_40083 ⟨[(4, B x_40085)], [(1, ⟨42, 0, (cs_Unit x_40078.1)⟩), (0, ⟨42, 5, flat cs_Unit a1⟩)], 2⟩ (by kernel_rfl) (leB rfl) ?_
    refine w_ret ?_
    obtain rfl := ((Option.some.inj h).symm).symm
    exact ret_leaf (.inl rfl) ⟨[(4, B x_40085)], [(0, ⟨42, 5, flat cs_Unit a1⟩)], 1⟩ (to_ren [] (leB rfl) (by kernel_rfl) (by kernel_rfl) (renE_of (by kernel_rfl) (by kernel_rfl)) ⟨rePl (by kernel_rfl) (leB rfl) (flat_all _ (fun _ => rfl) _), trivial⟩) [B x_40085] (by kernel_rfl) (by kernel_rfl) (leB rfl) (by kernel_rfl) ⟨⟨by kernel_rfl, leB rfl, (flat_all _ (fun _ => rfl) _)⟩, trivial⟩
  · refine dd_skip 2 5 1 true rfl (b := x_40078.2) (by kernel_rfl) h_40084 (by kernel_rfl) ?_
    refine dd_one 5 (.pick (.tmp 15) (.tmp 18) (.const (.bool false))) (some 19) (by kernel_rfl) (o_pure (B false) (ev_pickF h_40084 (by kernel_rfl) (by kernel_rfl)) rfl) ?_
    refine ops_fin' hK_40083 ⟨[(4, B false)], [(1, ⟨42, 0, (cs_Unit x_40078.1)⟩), (0, ⟨42, 5, flat cs_Unit a1⟩)], 2⟩ (by kernel_rfl) (leB rfl) ?_
    refine w_ret ?_
    obtain rfl := ((Option.some.inj h).symm).symm
    exact ret_leaf (.inl rfl) ⟨[(4, B false)], [(0, ⟨42, 5, flat cs_Unit a1⟩)], 1⟩ (to_ren [] (leB rfl) (by kernel_rfl) (by kernel_rfl) (renE_of (by kernel_rfl) (by kernel_rfl)) ⟨rePl (by kernel_rfl) (leB rfl) (flat_all _ (fun _ => rfl) _), trivial⟩) [B false] (by kernel_rfl) (by kernel_rfl) (leB rfl) (by kernel_rfl) ⟨⟨by kernel_rfl, leB rfl, (flat_all _ (fun _ => rfl) _)⟩, trivial⟩
/-- (estoppel/quantity.table).value -/
def g_estoppel_quantity_table_value_o (a1 : List D.Unit) (a2 : D.Amount) (a3 : Int) : Option (D.Ratio × Int) :=
  (getI a1 a2.Unit).bind fun x_40180 =>
  (getI a1 a3).bind fun x_40184 =>
  (g_quantity_exact a2.Value x_40180.Factor x_40184.Factor).bind fun x_40186 =>
  some (x_40186.1, x_40186.2)
set_option maxHeartbeats 4000000 in
theorem g_estoppel_quantity_table_value_o_ok {a1 : List D.Unit} {a2 : D.Amount} {a3 : Int} {res : D.Ratio × Int} (h : g_estoppel_quantity_table_value_o a1 a2 a3 = some res) : SpecK Tryd.prog [0] 35 [.own 0 a1.length, .agg (cs_Amount a2), I a3] [(0, ⟨42, 5, flat cs_Unit a1⟩)] 1 (.tup [.agg (cs_Ratio res.1), I res.2]) [(0, ⟨42, 5, flat cs_Unit a1⟩)] 1 := by
  refine ⟨spec_of_wp Tryd.func35 (by kernel_rfl) rfl Tryd.ntmps35 (by rw [Tryd.results35]) (leB rfl) ?_, by kernel_rfl, ⟨⟨leB rfl, flat_all (AV.keyed 0 4) (fun _ => rfl) _⟩, trivial⟩, by kernel_rfl, ⟨⟨leB rfl, flat_all (AV.keyed 0 4) (fun _ => rfl) _⟩, trivial⟩, by kernel_rfl⟩
  unfold g_estoppel_quantity_table_value_o at h
  refine w_reg ⟨[(0, .own 0 a1.length), (2, I a3), (4, .ip (cs_Amount a2)), (6, .ptr 1 0)], [(1, ⟨31, 0, [I 0, I 0]⟩), (0, ⟨42, 5, flat cs_Unit a1⟩)], 2⟩ (by kernel_rfl) (leB rfl) ?_
  refine w_seq (fun K hK_40177 => w_mix0 (by kernel_rfl) (by kernel_rfl) ?_)
  refine mm_run 0 5 rfl (by kernel_rfl) ?_
  obtain ⟨x_40180, h_40181, h⟩ := bind_some' h
  refine mm_one 5 (.indexAddr 55 (.tmp 10) (.tmp 12)) (some 13) (by kernel_rfl) (by kernel_rfl) (oH_pure (.ptr 0 (a2.Unit.toNat * 5)) (ev_idx_own (N := a1.length) (e := 42) (k := 5) (ik := .i64) h_40181 rfl (by kernel_rfl) (by kernel_rfl) (by kernel_rfl) (by kernel_rfl)) rfl) ?_
  refine mm_run 6 7 rfl (by kernel_rfl) ?_
  refine mm_one 7 (.load 31 (.tmp 14)) (some 15) (by kernel_rfl) (by kernel_rfl) (oH_pure (.agg (cs_Ratio x_40180.Factor)) (ev_load_row (o := a2.Unit.toNat * 5 + 3) (b := 0) (i := a2.Unit.toNat) (j := 3) (k := 5) (c := cs_Unit) (sz := 5) (ty := 42) (fun _ => rfl) (getI_some h_40181).2 rfl (by kernel_rfl) (by kernel_rfl) (by kernel_rfl)) rfl) ?_
  refine mm_run 8 10 rfl (by kernel_rfl) ?_
  obtain ⟨x_40184, h_40185, h⟩ := bind_some' h
  refine mm_one 10 (.indexAddr 55 (.tmp 16) (.tmp 17)) (some 18) (by kernel_rfl) (by kernel_rfl) (oH_pure (.ptr 0 (a3.toNat * 5)) (ev_idx_own (N := a1.length) (e := 42) (k := 5) (ik := .i64) h_40185 rfl (by kernel_rfl) (by kernel_rfl) (by kernel_rfl) (by kernel_rfl)) rfl) ?_
  refine mm_run 11 12 rfl (by kernel_rfl) ?_
  refine mm_one 12 (.load 31 (.tmp 19)) (some 20) (by kernel_rfl) (by kernel_rfl) (oH_pure (.agg (cs_Ratio x_40184.Factor)) (ev_load_row (o := a3.toNat * 5 + 3) (b := 0) (i := a3.toNat) (j := 3) (k := 5) (c := cs_Unit) (sz := 5) (ty := 42) (fun _ => rfl) (getI_some h_40185).2 rfl (by kernel_rfl) (by kernel_rfl) (by kernel_rfl)) rfl) ?_
  obtain ⟨x_40186, h_40187, h⟩ := bind_some' h
  refine mm_one 13 (.call ⟨.value (.func 52), #[(.tmp 9), (.tmp 15), (.tmp 20)], #[31, 31, 31]⟩) (some 21) (by kernel_rfl) (by kernel_rfl) (oH_callP (g_quantity_exact_ok h_40187) (by kernel_rfl) rfl) ?_
  refine mm_run 14 16 rfl (by kernel_rfl) ?_
  refine mm_ops 16 (.store 31 (.tmp 6) (.tmp 22)) none none (by kernel_rfl) (by kernel_rfl) ?_
  refine ops_fin' hK_40177 ⟨[(6, .ptr 1 0), (7, I x_40186.2)], [(1, ⟨31, 0, (cs_Ratio x_40186.1)⟩), (0, ⟨42, 5, flat cs_Unit a1⟩)], 2⟩ (by kernel_rfl) (leB rfl) ?_
  refine w_ret ?_
  obtain rfl := ((Option.some.inj h).symm).symm
  exact ret_leaf (.inl rfl) ⟨[(6, .ptr 1 0), (7, I x_40186.2)], [(0, ⟨42, 5, flat cs_Unit a1⟩), (1, ⟨31, 0, (cs_Ratio x_40186.1)⟩)], 2⟩ (to_ren [] (leB rfl) (by kernel_rfl) (by kernel_rfl) (renE_of (by kernel_rfl) (by kernel_rfl)) ⟨rePl (by kernel_rfl) (leB rfl) (flat_all _ (fun _ => rfl) _), ⟨reRn (by kernel_rfl) (leB rfl) (by kernel_rfl), trivial⟩⟩) [.agg (cs_Ratio x_40186.1), I x_40186.2] (by kernel_rfl) (by kernel_rfl) (leB rfl) (by kernel_rfl) ⟨⟨by kernel_rfl, leB rfl, (flat_all _ (fun _ => rfl) _)⟩, trivial⟩
/-- estoppel/quantity.Convert -/
def g_quantity_Convert_o (a1 : List D.Unit) (a2 : D.Amount) (a3 : Int) : Option (D.Amount × Int) :=
  (g_quantity_Valid_o a1).bind fun x_40199 =>
  (g_estoppel_quantity_table_at_o a1 a3).bind fun x_40204 =>
  bindF (ρ := Bool) (
  if (!x_40199.2) = true then
  some (.inl true)
  else
  if (!x_40204.2) = true then
  some (.inl true)
  else
  (g_estoppel_quantity_table_has_o a1 a2).bind fun x_40242 =>
  some (.inl (!x_40242))) (fun (e_40237 : Bool) =>
  if e_40237 = true then
  some ((D.Amount.mk 0 (D.Ratio.mk 0 0)), 1)
  else
  (getI a1 a2.Unit).bind fun x_40256 =>
  if (x_40256.Base != x_40204.1.Base) = true then
  some ((D.Amount.mk 0 (D.Ratio.mk 0 0)), 11)
  else
  (g_estoppel_quantity_table_value_o a1 a2 a3).bind fun x_40262 =>
  if (x_40262.2 != 0) = true then
  some ((D.Amount.mk 0 (D.Ratio.mk 0 0)), x_40262.2)
  else
  some ((D.Amount.mk a3 x_40262.1), 0))
set_option maxHeartbeats 4000000 in
theorem g_quantity_Convert_o_ok {a1 : List D.Unit} {a2 : D.Amount} {a3 : Int} {res : D.Amount × Int} (h : g_quantity_Convert_o a1 a2 a3 = some res) : SpecK Tryd.prog [0] 17 [.own 0 a1.length, .agg (cs_Amount a2), I a3] [(0, ⟨42, 5, flat cs_Unit a1⟩)] 1 (.tup [.agg (cs_Amount res.1), I res.2]) [(0, ⟨42, 5, flat cs_Unit a1⟩)] 1 := by
  refine ⟨spec_of_wp Tryd.func17 (by kernel_rfl) rfl Tryd.ntmps17 (by rw [Tryd.results17]) (leB rfl) ?_, by kernel_rfl, ⟨⟨leB rfl, flat_all (AV.keyed 0 4) (fun _ => rfl) _⟩, trivial⟩, by kernel_rfl, ⟨⟨leB rfl, flat_all (AV.keyed 0 4) (fun _ => rfl) _⟩, trivial⟩, by kernel_rfl⟩
  unfold g_quantity_Convert_o at h
  refine w_reg ⟨[(0, .own 0 a1.length), (2, I a3), (4, .ip (cs_Amount a2)), (6, .ptr 1 0)], [(1, ⟨33, 0, [I 0, I 0, I 0]⟩), (0, ⟨42, 5, flat cs_Unit a1⟩)], 2⟩ (by kernel_rfl) (leB rfl) ?_
  refine w_reg ⟨[(0, .own 0 a1.length), (2, I a3), (4, .ip (cs_Amount a2)), (6, .ptr 1 0), (8, .own 0 a1.length)], [(1, ⟨33, 0, [I 0, I 0, I 0]⟩), (0, ⟨42, 5, flat cs_Unit a1⟩)], 2⟩ (by kernel_rfl) (leB rfl) ?_
  refine w_seq (fun K hK_40198 => w_reg0 ?_)
  refine dd_run 0 1 rfl (by kernel_rfl) ?_
  obtain ⟨x_40199, h_40200, h⟩ := bind_some' h
  refine dd_one 1 (.call ⟨.value (.func 13), #[(.tmp 17)], #[22]⟩) (some 18) (by kernel_rfl) (o_callE [0] (g_quantity_Valid_o_ok h_40200) (by kernel_rfl) (by kernel_rfl) (by kernel_rfl) rfl) ?_
  refine ops_fin' hK_40198 ⟨[(2, I a3), (4, .ip (cs_Amount a2)), (6, .ptr 1 0), (8, .own 0 a1.length), (10, B x_40199.2)], [(0, ⟨42, 5, flat cs_Unit a1⟩), (1, ⟨33, 0, [I 0, I 0, I 0]⟩)], 2⟩ (by kernel_rfl) (leB rfl) ?_
  refine w_seq (fun K hK_40203 => w_reg0 ?_)
  refine dd_run 0 2 rfl (by kernel_rfl) ?_
  obtain ⟨x_40204, h_40205, h⟩ := bind_some' h
  refine dd_one 2 (.call ⟨.value (.func 33), #[(.tmp 22), (.tmp 23)], #[55, 3]⟩) (some 24) (by kernel_rfl) (o_callE [0] (g_estoppel_quantity_table_at_o_ok h_40205) (by kernel_rfl) (by kernel_rfl) (by kernel_rfl) rfl) ?_
  refine ops_fin' hK_40203 ⟨[(2, I a3), (4, .ip (cs_Amount a2)), (6, .ptr 1 0), (8, .own 0 a1.length), (10, B x_40199.2), (11, .ptr 2 0), (12, B x_40204.2)], [(2, ⟨42, 0, (cs_Unit x_40204.1)⟩), (0, ⟨42, 5, flat cs_Unit a1⟩), (1, ⟨33, 0, [I 0, I 0, I 0]⟩)], 3⟩ (by kernel_rfl) (leB rfl) ?_
  refine w_seq (fun K hK_40232 => ?_)
  refine w_block ?_
  refine w_cut h (fun (e_40237 : Bool) => ⟨[(2, I a3), (4, .ip (cs_Amount a2)), (6, .ptr 1 0), (8, .own 0 a1.length), (11, .ptr 2 0), (27, B e_40237)], [(0, ⟨42, 5, flat cs_Unit a1⟩), (1, ⟨33, 0, [I 0, I 0, I 0]⟩), (2, ⟨42, 0, (cs_Unit x_40204.1)⟩)], 3⟩) (fun o h h_40238 K hK_40239 => ?_) (fun e_40237 h => ?_)
  · refine w_reg0 ?_
    refine dd_run 0 3 rfl (by kernel_rfl) ?_
    refine ite_both h (fun h_40240 h => ?_) (fun h_40240 h => ?_)
    · refine dd_skip 3 5 2 false rfl (b := (!x_40199.2)) (by kernel_rfl) h_40240 (by kernel_rfl) ?_
      refine dd_one 5 (.pick (.tmp 30) (.const (.bool true)) (.tmp 32)) (some 33) (by kernel_rfl) (o_pure (B true) (ev_pickT h_40240 (by kernel_rfl) (by kernel_rfl)) rfl) ?_
      refine dd_run 6 7 rfl (by kernel_rfl) ?_
      refine dd_skip 7 11 6 false rfl (b := true) (by kernel_rfl) rfl (by kernel_rfl) ?_
      refine dd_run 11 13 rfl (by kernel_rfl) ?_
      refine dd_nil 13 rfl ?_
      exact hK_40239 _ _ (Option.some.inj h).symm (to_ren [] (leB rfl) (by kernel_rfl) (by kernel_rfl) (renE_of (by kernel_rfl) (by kernel_rfl)) ⟨rePl (by kernel_rfl) (leB rfl) (flat_all _ (fun _ => rfl) _), ⟨reRn (by kernel_rfl) (leB rfl) (by kernel_rfl), ⟨reRn (by kernel_rfl) (leB rfl) (by kernel_rfl), trivial⟩⟩⟩)
    · refine dd_runG 3 5 2 false rfl (b := (!x_40199.2)) (by kernel_rfl) h_40240 (by kernel_rfl) ?_
      refine dd_one 5 (.pick (.tmp 30) (.const (.bool true)) (.tmp 32)) (some 33) (by kernel_rfl) (o_pure (B (!x_40204.2)) (ev_pickF h_40240 (by kernel_rfl) (by kernel_rfl)) rfl) ?_
      refine dd_run 6 7 rfl (by kernel_rfl) ?_
      refine ite_both h (fun h_40241 h => ?_) (fun h_40241 h => ?_)
      · refine dd_skip 7 11 6 false rfl (b := (!x_40204.2)) (by kernel_rfl) h_40241 (by kernel_rfl) ?_
        refine dd_one 11 (.pick (.tmp 34) (.const (.bool true)) (.tmp 38)) (some 39) (by kernel_rfl) (o_pure (B true) (ev_pickT h_40241 (by kernel_rfl) (by kernel_rfl)) rfl) ?_
        refine dd_run 12 13 rfl (by kernel_rfl) ?_
        refine dd_nil 13 rfl ?_
        exact hK_40239 _ _ (Option.some.inj h).symm (to_ren [] (leB rfl) (by kernel_rfl) (by kernel_rfl) (renE_of (by kernel_rfl) (by kernel_rfl)) ⟨rePl (by kernel_rfl) (leB rfl) (flat_all _ (fun _ => rfl) _), ⟨reRn (by kernel_rfl) (leB rfl) (by kernel_rfl), ⟨reRn (by kernel_rfl) (leB rfl) (by kernel_rfl), trivial⟩⟩⟩)
      · refine dd_runG 7 9 6 false rfl (b := (!x_40204.2)) (by kernel_rfl) h_40241 (by kernel_rfl) ?_
        obtain ⟨x_40242, h_40243, h⟩ := bind_some' h
        refine dd_oneG 9 (.call ⟨.value (.func 34), #[(.tmp 35), (.tmp 36)], #[55, 33]⟩) (some 37) 6 false (b := (!x_40204.2)) (by kernel_rfl) (by kernel_rfl) h_40241 (o_callE [0] (g_estoppel_quantity_table_has_o_ok h_40243) (by kernel_rfl) (by kernel_rfl) (by kernel_rfl) rfl) ?_
        refine dd_runG 10 11 6 false rfl (b := (!x_40204.2)) (by kernel_rfl) h_40241 (by kernel_rfl) ?_
        refine dd_one 11 (.pick (.tmp 34) (.const (.bool true)) (.tmp 38)) (some 39) (by kernel_rfl) (o_pure (B (!x_40242)) (ev_pickF h_40241 (by kernel_rfl) (by kernel_rfl)) rfl) ?_
        refine dd_run 12 13 rfl (by kernel_rfl) ?_
        refine dd_nil 13 rfl ?_
        exact hK_40239 _ _ (Option.some.inj h).symm (to_ren [] (leB rfl) (by kernel_rfl) (by kernel_rfl) (renE_of (by kernel_rfl) (by kernel_rfl)) ⟨rePl (by kernel_rfl) (leB rfl) (flat_all _ (fun _ => rfl) _), ⟨reRn (by kernel_rfl) (leB rfl) (by kernel_rfl), ⟨reRn (by kernel_rfl) (leB rfl) (by kernel_rfl), trivial⟩⟩⟩)
  · refine w_ite h (by kernel_rfl) (fun h_40244 h => ?_) (fun h_40244 h => ?_)
    · refine w_reg ⟨[(6, .ptr 1 0), (7, I 1)], [(0, ⟨42, 5, flat cs_Unit a1⟩), (1, ⟨33, 0, [I 0, I 0, I 0]⟩), (2, ⟨42, 0, (cs_Unit x_40204.1)⟩)], 3⟩ (by kernel_rfl) (leB rfl) ?_
      refine w_ret ?_
      obtain rfl := ((Option.some.inj h).symm).symm
      exact ret_leaf (.inl rfl) ⟨[(6, .ptr 1 0), (7, I 1)], [(0, ⟨42, 5, flat cs_Unit a1⟩), (1, ⟨33, 0, (cs_Amount (D.Amount.mk 0 (D.Ratio.mk 0 0)))⟩)], 2⟩ (to_ren [] (leB rfl) (by kernel_rfl) (by kernel_rfl) (renE_of (by kernel_rfl) (by kernel_rfl)) ⟨rePl (by kernel_rfl) (leB rfl) (flat_all _ (fun _ => rfl) _), ⟨reRn (by kernel_rfl) (leB rfl) (by kernel_rfl), trivial⟩⟩) [.agg (cs_Amount (D.Amount.mk 0 (D.Ratio.mk 0 0))), I 1] (by kernel_rfl) (by kernel_rfl) (leB rfl) (by kernel_rfl) ⟨⟨by kernel_rfl, leB rfl, (flat_all _ (fun _ => rfl) _)⟩, trivial⟩
    · refine w_seq (fun K hK_40253 => w_mix0 (by kernel_rfl) (by kernel_rfl) ?_)
      refine mm_run 0 3 rfl (by kernel_rfl) ?_
      obtain ⟨x_40256, h_40257, h⟩ := bind_some' h
      refine mm_one 3 (.indexAddr 55 (.tmp 42) (.tmp 44)) (some 45) (by kernel_rfl) (by kernel_rfl) (oH_pure (.ptr 0 (a2.Unit.toNat * 5)) (ev_idx_own (N := a1.length) (e := 42) (k := 5) (ik := .i64) h_40257 rfl (by kernel_rfl) (by kernel_rfl) (by kernel_rfl) (by kernel_rfl)) rfl) ?_
      refine mm_run 4 5 rfl (by kernel_rfl) ?_
      refine mm_one 5 (.load 3 (.tmp 46)) (some 47) (by kernel_rfl) (by kernel_rfl) (oH_pure (I x_40256.Base) (ev_load_row (o := a2.Unit.toNat * 5 + 2) (b := 0) (i := a2.Unit.toNat) (j := 2) (k := 5) (c := cs_Unit) (sz := 5) (ty := 42) (fun _ => rfl) (getI_some h_40257).2 rfl (by kernel_rfl) (by kernel_rfl) (by kernel_rfl)) rfl) ?_
      refine mix_fin' hK_40253 ⟨[(2, I a3), (4, .ip (cs_Amount a2)), (6, .ptr 1 0), (8, .own 0 a1.length), (41, B (x_40256.Base != x_40204.1.Base))], [(0, ⟨42, 5, flat cs_Unit a1⟩), (1, ⟨33, 0, [I 0, I 0, I 0]⟩), (2, ⟨42, 0, (cs_Unit x_40204.1)⟩)], 3⟩ (by kernel_rfl) (leB rfl) ?_
      refine w_ite h (by kernel_rfl) (fun h_40258 h => ?_) (fun h_40258 h => ?_)
      · refine w_reg ⟨[(6, .ptr 1 0), (7, I 11)], [(0, ⟨42, 5, flat cs_Unit a1⟩), (1, ⟨33, 0, [I 0, I 0, I 0]⟩), (2, ⟨42, 0, (cs_Unit x_40204.1)⟩)], 3⟩ (by kernel_rfl) (leB rfl) ?_
        refine w_ret ?_
        obtain rfl := ((Option.some.inj h).symm).symm
        exact ret_leaf (.inl rfl) ⟨[(6, .ptr 1 0), (7, I 11)], [(0, ⟨42, 5, flat cs_Unit a1⟩), (1, ⟨33, 0, (cs_Amount (D.Amount.mk 0 (D.Ratio.mk 0 0)))⟩)], 2⟩ (to_ren [] (leB rfl) (by kernel_rfl) (by kernel_rfl) (renE_of (by kernel_rfl) (by kernel_rfl)) ⟨rePl (by kernel_rfl) (leB rfl) (flat_all _ (fun _ => rfl) _), ⟨reRn (by kernel_rfl) (leB rfl) (by kernel_rfl), trivial⟩⟩) [.agg (cs_Amount (D.Amount.mk 0 (D.Ratio.mk 0 0))), I 11] (by kernel_rfl) (by kernel_rfl) (leB rfl) (by kernel_rfl) ⟨⟨by kernel_rfl, leB rfl, (flat_all _ (fun _ => rfl) _)⟩, trivial⟩
      · refine w_skip ?_
        refine hK_40232 _ ⟨[(2, I a3), (4, .ip (cs_Amount a2)), (6, .ptr 1 0), (8, .own 0 a1.length)], [(0, ⟨42, 5, flat cs_Unit a1⟩), (1, ⟨33, 0, [I 0, I 0, I 0]⟩), (2, ⟨42, 0, (cs_Unit x_40204.1)⟩)], 3⟩ (to_trim (by kernel_rfl) (leB rfl)) ?_
        refine w_seq (fun K hK_40261 => w_reg0 ?_)
        refine dd_run 0 3 rfl (by kernel_rfl) ?_
        obtain ⟨x_40262, h_40263, h⟩ := bind_some' h
        refine dd_one 3 (.call ⟨.value (.func 35), #[(.tmp 53), (.tmp 54), (.tmp 55)], #[55, 33, 3]⟩) (some 56) (by kernel_rfl) (o_callE [0] (g_estoppel_quantity_table_value_o_ok h_40263) (by kernel_rfl) (by kernel_rfl) (by kernel_rfl) rfl) ?_
        refine ops_fin' hK_40261 ⟨[(2, I a3), (6, .ptr 1 0), (13, .ptr 3 0), (14, I x_40262.2)], [(3, ⟨31, 0, (cs_Ratio x_40262.1)⟩), (0, ⟨42, 5, flat cs_Unit a1⟩), (1, ⟨33, 0, [I 0, I 0, I 0]⟩), (2, ⟨42, 0, (cs_Unit x_40204.1)⟩)], 4⟩ (by kernel_rfl) (leB rfl) ?_
        refine w_assoc ?_
        refine w_reg ⟨[(2, I a3), (6, .ptr 1 0), (13, .ptr 3 0), (14, I x_40262.2), (60, B (x_40262.2 != 0))], [(3, ⟨31, 0, (cs_Ratio x_40262.1)⟩), (0, ⟨42, 5, flat cs_Unit a1⟩), (1, ⟨33, 0, [I 0, I 0, I 0]⟩), (2, ⟨42, 0, (cs_Unit x_40204.1)⟩)], 4⟩ (by kernel_rfl) (leB rfl) ?_
        refine w_seq (fun K hK_40265 => ?_)
        refine w_ite h (by kernel_rfl) (fun h_40266 h => ?_) (fun h_40266 h => ?_)
        · refine w_reg ⟨[(6, .ptr 1 0), (7, I x_40262.2)], [(3, ⟨31, 0, (cs_Ratio x_40262.1)⟩), (0, ⟨42, 5, flat cs_Unit a1⟩), (1, ⟨33, 0, [I 0, I 0, I 0]⟩), (2, ⟨42, 0, (cs_Unit x_40204.1)⟩)], 4⟩ (by kernel_rfl) (leB rfl) ?_
          refine w_ret ?_
          obtain rfl := ((Option.some.inj h).symm).symm
          exact ret_leaf (.inl rfl) ⟨[(6, .ptr 1 0), (7, I x_40262.2)], [(0, ⟨42, 5, flat cs_Unit a1⟩), (1, ⟨33, 0, (cs_Amount (D.Amount.mk 0 (D.Ratio.mk 0 0)))⟩)], 2⟩ (to_ren [] (leB rfl) (by kernel_rfl) (by kernel_rfl) (renE_of (by kernel_rfl) (by kernel_rfl)) ⟨rePl (by kernel_rfl) (leB rfl) (flat_all _ (fun _ => rfl) _), ⟨reRn (by kernel_rfl) (leB rfl) (by kernel_rfl), trivial⟩⟩) [.agg (cs_Amount (D.Amount.mk 0 (D.Ratio.mk 0 0))), I x_40262.2] (by kernel_rfl) (by kernel_rfl) (leB rfl) (by kernel_rfl) ⟨⟨by kernel_rfl, leB rfl, (flat_all _ (fun _ => rfl) _)⟩, trivial⟩
        · refine w_skip ?_
          refine hK_40265 _ ⟨[(2, I a3), (6, .ptr 1 0), (13, .ptr 3 0)], [(3, ⟨31, 0, (cs_Ratio x_40262.1)⟩), (0, ⟨42, 5, flat cs_Unit a1⟩), (1, ⟨33, 0, [I 0, I 0, I 0]⟩), (2, ⟨42, 0, (cs_Unit x_40204.1)⟩)], 4⟩ (to_trim (by kernel_rfl) (leB rfl)) ?_
          refine w_reg ⟨[(6, .ptr 1 0), (7, I 0)], [(3, ⟨31, 0, (cs_Ratio x_40262.1)⟩), (0, ⟨42, 5, flat cs_Unit a1⟩), (1, ⟨33, 0, ([I a3] ++ (cs_Ratio x_40262.1))⟩), (2, ⟨42, 0, (cs_Unit x_40204.1)⟩)], 4⟩ (by kernel_rfl) (leB rfl) ?_
          refine w_ret ?_
          obtain rfl := ((Option.some.inj h).symm).symm
          exact ret_leaf (.inl rfl) ⟨[(6, .ptr 1 0), (7, I 0)], [(0, ⟨42, 5, flat cs_Unit a1⟩), (1, ⟨33, 0, (cs_Amount (D.Amount.mk a3 x_40262.1))⟩)], 2⟩ (to_ren [] (leB rfl) (by kernel_rfl) (by kernel_rfl) (renE_of (by kernel_rfl) (by kernel_rfl)) ⟨rePl (by kernel_rfl) (leB rfl) (flat_all _ (fun _ => rfl) _), ⟨reRn (by kernel_rfl) (leB rfl) (by kernel_rfl), trivial⟩⟩) [.agg (cs_Amount (D.Amount.mk a3 x_40262.1)), I 0] (by kernel_rfl) (by kernel_rfl) (leB rfl) (by kernel_rfl) ⟨⟨by kernel_rfl, leB rfl, (flat_all _ (fun _ => rfl) _)⟩, trivial⟩
/-- (estoppel/quantity.table).all -/
def g_estoppel_quantity_table_all_o (a1 : List D.Unit) (a2 : List D.Amount) : Option (Bool) :=
  (g_quantity_Valid_o a1).bind fun x_40447 =>
  bindF (ρ := Bool) (
  loopO (σ := Bool × Int) (fun s_40562 =>
  bindF (ρ := Bool) (
  if (decide (s_40562.2 < (a2.length : Int))) = true then
  some (.inl s_40562.1)
  else
  some (.inl false)) (fun (e_40566 : Bool) =>
  if e_40566 = true then
  (getI a2 s_40562.2).bind fun x_40582 =>
  (g_estoppel_quantity_table_has_o a1 x_40582).bind fun x_40584 =>
  some (.inl (x_40584, (IntKind.i64.wrap (s_40562.2 + 1))))
  else
  some (.inr (.inl s_40562.1)))) (x_40447.2, 0)) (fun (e_40515 : Bool) =>
  some e_40515)
set_option maxHeartbeats 4000000 in
theorem g_estoppel_quantity_table_all_o_ok {a1 : List D.Unit} {a2 : List D.Amount} {res : Bool} (h : g_estoppel_quantity_table_all_o a1 a2 = some res) : SpecK Tryd.prog [0] 38 [.own 0 a1.length, sl 3 cs_Amount a2] [(0, ⟨42, 5, flat cs_Unit a1⟩)] 1 (B res) [(0, ⟨42, 5, flat cs_Unit a1⟩)] 1 := by
  refine ⟨spec_of_wp Tryd.func38 (by kernel_rfl) rfl Tryd.ntmps38 (by rw [Tryd.results38]) (leB rfl) ?_, by kernel_rfl, ⟨⟨leB rfl, flat_all (AV.keyed 0 4) (fun _ => rfl) _⟩, trivial⟩, by kernel_rfl, ⟨⟨leB rfl, flat_all (AV.keyed 0 4) (fun _ => rfl) _⟩, trivial⟩, by kernel_rfl⟩
  unfold g_estoppel_quantity_table_all_o at h
  refine w_reg ⟨[(0, .own 0 a1.length), (1, sl 3 cs_Amount a2)], [(0, ⟨42, 5, flat cs_Unit a1⟩)], 1⟩ (by kernel_rfl) (leB rfl) ?_
  refine w_seq (fun K hK_40446 => w_reg0 ?_)
  refine dd_run 0 1 rfl (by kernel_rfl) ?_
  obtain ⟨x_40447, h_40448, h⟩ := bind_some' h
  refine dd_one 1 (.call ⟨.value (.func 13), #[(.tmp 9)], #[22]⟩) (some 10) (by kernel_rfl) (o_callE [0] (g_quantity_Valid_o_ok h_40448) (by kernel_rfl) (by kernel_rfl) (by kernel_rfl) rfl) ?_
  refine ops_fin' hK_40446 ⟨[(0, .own 0 a1.length), (1, sl 3 cs_Amount a2), (6, B x_40447.2)], [(0, ⟨42, 5, flat cs_Unit a1⟩)], 1⟩ (by kernel_rfl) (leB rfl) ?_
  refine w_assoc ?_
  refine w_reg ⟨[(0, .own 0 a1.length), (1, sl 3 cs_Amount a2), (6, B x_40447.2), (7, I 0)], [(0, ⟨42, 5, flat cs_Unit a1⟩)], 1⟩ (by kernel_rfl) (leB rfl) ?_
  refine w_cut h (fun (e_40515 : Bool) => ⟨[(6, B e_40515)], [(0, ⟨42, 5, flat cs_Unit a1⟩)], 1⟩) (fun o h h_40516 K hK_40517 => ?_) (fun e_40515 h => ?_)
  · refine w_block ?_
    refine w_loopO h (fun (s_40562 : Bool × Int) => ⟨[(0, .own 0 a1.length), (1, sl 3 cs_Amount a2), (6, B s_40562.1), (7, I s_40562.2)], [(0, ⟨42, 5, flat cs_Unit a1⟩)], 1⟩) (to_ren [] (leB rfl) (by kernel_rfl) (by kernel_rfl) (renE_of (by kernel_rfl) (by kernel_rfl)) ⟨rePl (by kernel_rfl) (leB rfl) (flat_all _ (fun _ => rfl) _), trivial⟩) (fun s_40562 o h h_40563 K hK_40564 => ?_)
    · refine w_assoc ?_
      refine w_cut h (fun (e_40566 : Bool) => ⟨[(0, .own 0 a1.length), (1, sl 3 cs_Amount a2), (6, B s_40562.1), (7, I s_40562.2), (19, B e_40566)], [(0, ⟨42, 5, flat cs_Unit a1⟩)], 1⟩) (fun o h h_40567 K hK_40568 => ?_) (fun e_40566 h => ?_)
      · refine w_reg0 ?_
        refine dd_run 0 2 rfl (by kernel_rfl) ?_
        refine dd_one 2 (.call ⟨.builtin .len, #[(.tmp 14)], #[23]⟩) (some 15) (by kernel_rfl) (o_pure (I (a2.length : Int)) (ev_len_sl (e := 33) (ty := 0) (k := 3) (c := cs_Amount) (by kernel_rfl) (by kernel_rfl)) rfl) ?_
        refine dd_run 3 5 rfl (by kernel_rfl) ?_
        refine ite_both h (fun h_40569 h => ?_) (fun h_40569 h => ?_)
        · refine dd_runG 5 6 4 true rfl (b := (decide (s_40562.2 < (a2.length : Int)))) (by kernel_rfl) h_40569 (by kernel_rfl) ?_
          refine dd_one 6 (.pick (.tmp 17) (.tmp 18) (.const (.bool false))) (some 19) (by kernel_rfl) (o_pure (B s_40562.1) (ev_pickT h_40569 (by kernel_rfl) (by kernel_rfl)) rfl) ?_
          refine dd_nil 7 rfl ?_
          exact hK_40568 _ _ (Option.some.inj h).symm (to_ren [] (leB rfl) (by kernel_rfl) (by kernel_rfl) (renE_of (by kernel_rfl) (by kernel_rfl)) ⟨rePl (by kernel_rfl) (leB rfl) (flat_all _ (fun _ => rfl) _), trivial⟩)
        · refine dd_skip 5 6 4 true rfl (b := (decide (s_40562.2 < (a2.length : Int)))) (by kernel_rfl) h_40569 (by kernel_rfl) ?_
          refine dd_one 6 (.pick (.tmp 17) (.tmp 18) (.const (.bool false))) (some 19) (by kernel_rfl) (o_pure (B false) (ev_pickF h_40569 (by kernel_rfl) (by kernel_rfl)) rfl) ?_
          refine dd_nil 7 rfl ?_
          exact hK_40568 _ _ (Option.some.inj h).symm (to_ren [] (leB rfl) (by kernel_rfl) (by kernel_rfl) (renE_of (by kernel_rfl) (by kernel_rfl)) ⟨rePl (by kernel_rfl) (leB rfl) (flat_all _ (fun _ => rfl) _), trivial⟩)
      · refine w_seq (fun K hK_40571 => ?_)
        refine w_ite h (by kernel_rfl) (fun h_40572 h => ?_) (fun h_40572 h => ?_)
        · refine w_skip ?_
          refine hK_40571 _ ⟨[(0, .own 0 a1.length), (1, sl 3 cs_Amount a2), (7, I s_40562.2)], [(0, ⟨42, 5, flat cs_Unit a1⟩)], 1⟩ (to_trim (by kernel_rfl) (leB rfl)) ?_
          refine w_seq (fun K hK_40579 => ?_)
          refine w_block ?_
          refine w_reg0 ?_
          refine dd_run 0 3 rfl (by kernel_rfl) ?_
          obtain ⟨x_40582, h_40583, h⟩ := bind_some' h
          refine dd_one 3 (.indexAddr 23 (.tmp 23) (.tmp 24)) (some 25) (by kernel_rfl) (o_pure (.ip (cs_Amount x_40582)) (ev_idx_sl (e := 33) (k := 3) (c := cs_Amount) (ik := .i64) h_40583 (by kernel_rfl) (by kernel_rfl) (by kernel_rfl) (by kernel_rfl)) rfl) ?_
          refine dd_run 4 5 rfl (by kernel_rfl) ?_
          obtain ⟨x_40584, h_40585, h⟩ := bind_some' h
          refine dd_one 5 (.call ⟨.value (.func 34), #[(.tmp 22), (.tmp 26)], #[55, 33]⟩) (some 27) (by kernel_rfl) (o_callE [0] (g_estoppel_quantity_table_has_o_ok h_40585) (by kernel_rfl) (by kernel_rfl) (by kernel_rfl) rfl) ?_
          refine dd_run 6 7 rfl (by kernel_rfl) ?_
          refine dd_nil 7 rfl ?_
          refine hK_40579 _ ⟨[(0, .own 0 a1.length), (1, sl 3 cs_Amount a2), (6, B x_40584), (7, I s_40562.2)], [(0, ⟨42, 5, flat cs_Unit a1⟩)], 1⟩ (to_trim (by kernel_rfl) (leB rfl)) ?_
          refine w_reg0 ?_
          refine dd_run 0 3 rfl (by kernel_rfl) ?_
          refine dd_nil 3 rfl ?_
          exact hK_40564 _ _ (Option.some.inj h).symm (to_ren [] (leB rfl) (by kernel_rfl) (by kernel_rfl) (renE_of (by kernel_rfl) (by kernel_rfl)) ⟨rePl (by kernel_rfl) (leB rfl) (flat_all _ (fun _ => rfl) _), trivial⟩)
        · refine w_exit ?_
          exact hK_40517 _ _ (h_40563 _ (Option.some.inj h).symm).symm (to_ren [] (leB rfl) (by kernel_rfl) (by kernel_rfl) (renE_of (by kernel_rfl) (by kernel_rfl)) ⟨rePl (by kernel_rfl) (leB rfl) (flat_all _ (fun _ => rfl) _), trivial⟩)
  · refine w_reg ⟨[(4, B e_40515)], [(0, ⟨42, 5, flat cs_Unit a1⟩)], 1⟩ (by kernel_rfl) (leB rfl) ?_
    refine w_ret ?_
    obtain rfl := ((Option.some.inj h).symm).symm
    exact ret_leaf (.inl rfl) ⟨[(4, B e_40515)], [(0, ⟨42, 5, flat cs_Unit a1⟩)], 1⟩ (to_ren [] (leB rfl) (by kernel_rfl) (by kernel_rfl) (renE_of (by kernel_rfl) (by kernel_rfl)) ⟨rePl (by kernel_rfl) (leB rfl) (flat_all _ (fun _ => rfl) _), trivial⟩) [B e_40515] (by kernel_rfl) (by kernel_rfl) (leB rfl) (by kernel_rfl) ⟨⟨by kernel_rfl, leB rfl, (flat_all _ (fun _ => rfl) _)⟩, trivial⟩
/-- estoppel/quantity.gather -/
def g_quantity_gather_value_Sum_1_Sum_2_v2 (a1 : List D.Amount) (a2 : List D.Unit) (a3 : Int) (a4 : D.Ratio) : Option (D.Ratio × Int) :=
  bindF (ρ := D.Ratio) (
  loopO (σ := D.Ratio × Int) (fun s_41680 =>
  if (decide (s_41680.2 < (a1.length : Int))) = true then
  (getI a1 s_41680.2).bind fun x_41727 =>
  (g_quantity_Sum_1 x_41727 a3).bind fun x_41732 =>
  (g_estoppel_quantity_table_value_o a2 x_41727 x_41732).bind fun x_41737 =>
  bindF (ρ := D.Ratio × Int) (
  if (x_41737.2 == 0) = true then
  (g_quantity_Sum_2 x_41732 x_41737.1 s_41680.1).bind fun x_41746 =>
  some (.inl (x_41746.1, x_41746.2))
  else
  some (.inl (s_41680.1, x_41737.2))) (fun (e_41742 : D.Ratio × Int) =>
  if (e_41742.2 != 0) = true then
  some (.inr (.inr (e_41742.1, e_41742.2)))
  else
  some (.inl (e_41742.1, (IntKind.i64.wrap (s_41680.2 + 1)))))
  else
  some (.inr (.inl s_41680.1))) (a4, 0)) (fun (e_41543 : D.Ratio) =>
  some (e_41543, 0))
set_option maxHeartbeats 4000000 in
theorem g_quantity_gather_value_Sum_1_Sum_2_v2_ok {a1 : List D.Amount} {a2 : List D.Unit} {a3 : Int} {a4 : D.Ratio} {res : D.Ratio × Int} (h : g_quantity_gather_value_Sum_1_Sum_2_v2 a1 a2 a3 a4 = some res) : SpecK Tryd.prog [0] 39 [sl 3 cs_Amount a1, .bm 35 [.own 0 a2.length], .fn 40 [.ip [I a3]], .fn 41 [.ptr 1 0]] [(0, ⟨42, 5, flat cs_Unit a2⟩), (1, ⟨31, 0, (cs_Ratio a4)⟩)] 2 (I res.2) [(0, ⟨42, 5, flat cs_Unit a2⟩), (1, ⟨31, 0, (cs_Ratio res.1)⟩)] 2 := by
  refine ⟨spec_of_wp Tryd.func39 (by kernel_rfl) rfl Tryd.ntmps39 (by rw [Tryd.results39]) (leB rfl) ?_, by kernel_rfl, ⟨⟨leB rfl, flat_all (AV.keyed 0 4) (fun _ => rfl) _⟩, ⟨⟨leB rfl, by kernel_rfl⟩, trivial⟩⟩, by kernel_rfl, ⟨⟨leB rfl, flat_all (AV.keyed 0 4) (fun _ => rfl) _⟩, ⟨⟨leB rfl, by kernel_rfl⟩, trivial⟩⟩, by kernel_rfl⟩
  unfold g_quantity_gather_value_Sum_1_Sum_2_v2 at h
  refine w_reg ⟨[(0, sl 3 cs_Amount a1), (1, .bm 35 [.own 0 a2.length]), (2, .fn 40 [.ip [I a3]]), (3, .fn 41 [.ptr 1 0])], [(0, ⟨42, 5, flat cs_Unit a2⟩), (1, ⟨31, 0, (cs_Ratio a4)⟩)], 2⟩ (by kernel_rfl) (leB rfl) ?_
  refine w_assoc ?_
  refine w_seq (fun K hK_41341 => w_reg0 ?_)
  refine dd_run 0 1 rfl (by kernel_rfl) ?_
  refine dd_one 1 (.call ⟨.builtin .len, #[(.tmp 14)], #[23]⟩) (some 15) (by kernel_rfl) (o_pure (I (a1.length : Int)) (ev_len_sl (e := 33) (ty := 0) (k := 3) (c := cs_Amount) (by kernel_rfl) (by kernel_rfl)) rfl) ?_
  refine ops_fin' hK_41341 ⟨[(1, .bm 35 [.own 0 a2.length]), (2, .fn 40 [.ip [I a3]]), (3, .fn 41 [.ptr 1 0]), (14, sl 3 cs_Amount a1), (15, I (a1.length : Int)), (16, I 0)], [(0, ⟨42, 5, flat cs_Unit a2⟩), (1, ⟨31, 0, (cs_Ratio a4)⟩)], 2⟩ (by kernel_rfl) (leB rfl) ?_
  refine w_cut h (fun (e_41543 : D.Ratio) => ⟨[], [(0, ⟨42, 5, flat cs_Unit a2⟩), (1, ⟨31, 0, (cs_Ratio e_41543)⟩)], 2⟩) (fun o h h_41544 K hK_41545 => ?_) (fun e_41543 h => ?_)
  · refine w_block ?_
    refine w_loopO h (fun (s_41680 : D.Ratio × Int) => ⟨[(1, .bm 35 [.own 0 a2.length]), (2, .fn 40 [.ip [I a3]]), (3, .fn 41 [.ptr 1 0]), (14, sl 3 cs_Amount a1), (15, I (a1.length : Int)), (16, I s_41680.2)], [(0, ⟨42, 5, flat cs_Unit a2⟩), (1, ⟨31, 0, (cs_Ratio s_41680.1)⟩)], 2⟩) (to_ren [] (leB rfl) (by kernel_rfl) (by kernel_rfl) (renE_of (by kernel_rfl) (by kernel_rfl)) ⟨rePl (by kernel_rfl) (leB rfl) (flat_all _ (fun _ => rfl) _), ⟨reRn (by kernel_rfl) (leB rfl) (by kernel_rfl), trivial⟩⟩) (fun s_41680 o h h_41681 K hK_41682 => ?_)
    · refine w_reg ⟨[(1, .bm 35 [.own 0 a2.length]), (2, .fn 40 [.ip [I a3]]), (3, .fn 41 [.ptr 1 0]), (14, sl 3 cs_Amount a1), (15, I (a1.length : Int)), (16, I s_41680.2), (17, B (decide (s_41680.2 < (a1.length : Int))))], [(0, ⟨42, 5, flat cs_Unit a2⟩), (1, ⟨31, 0, (cs_Ratio s_41680.1)⟩)], 2⟩ (by kernel_rfl) (leB rfl) ?_
      refine w_seq (fun K hK_41684 => ?_)
      refine w_ite h (by kernel_rfl) (fun h_41685 h => ?_) (fun h_41685 h => ?_)
      · refine w_skip ?_
        refine hK_41684 _ ⟨[(1, .bm 35 [.own 0 a2.length]), (2, .fn 40 [.ip [I a3]]), (3, .fn 41 [.ptr 1 0]), (14, sl 3 cs_Amount a1), (15, I (a1.length : Int)), (16, I s_41680.2)], [(0, ⟨42, 5, flat cs_Unit a2⟩), (1, ⟨31, 0, (cs_Ratio s_41680.1)⟩)], 2⟩ (to_trim (by kernel_rfl) (leB rfl)) ?_
        refine w_seq (fun K hK_41717 => ?_)
        refine w_block ?_
        refine w_seq (fun K hK_41724 => w_reg0 ?_)
        obtain ⟨x_41727, h_41728, h⟩ := bind_some' h
        refine dd_one 0 (.indexAddr 23 (.tmp 14) (.tmp 16)) (some 18) (by kernel_rfl) (o_pure (.ip (cs_Amount x_41727)) (ev_idx_sl (e := 33) (k := 3) (c := cs_Amount) (ik := .i64) h_41728 (by kernel_rfl) (by kernel_rfl) (by kernel_rfl) (by kernel_rfl)) rfl) ?_
        refine ops_fin' hK_41724 ⟨[(1, .bm 35 [.own 0 a2.length]), (2, .fn 40 [.ip [I a3]]), (3, .fn 41 [.ptr 1 0]), (10, .ptr 2 0), (14, sl 3 cs_Amount a1), (15, I (a1.length : Int)), (16, I s_41680.2)], [(2, ⟨33, 0, (cs_Amount x_41727)⟩), (0, ⟨42, 5, flat cs_Unit a2⟩), (1, ⟨31, 0, (cs_Ratio s_41680.1)⟩)], 3⟩ (by kernel_rfl) (leB rfl) ?_
        refine w_seq (fun K hK_41731 => w_reg0 ?_)
        refine dd_run 0 2 rfl (by kernel_rfl) ?_
        obtain ⟨x_41732, h_41733, h⟩ := bind_some' h
        refine dd_one 2 (.call ⟨.value (.tmp 20), #[(.tmp 21)], #[33]⟩) (some 22) (by kernel_rfl) (o_callP (g_quantity_Sum_1_ok h_41733) (by kernel_rfl) rfl) ?_
        refine ops_fin' hK_41731 ⟨[(1, .bm 35 [.own 0 a2.length]), (2, .fn 40 [.ip [I a3]]), (3, .fn 41 [.ptr 1 0]), (10, .ptr 2 0), (11, I x_41732), (14, sl 3 cs_Amount a1), (15, I (a1.length : Int)), (16, I s_41680.2)], [(2, ⟨33, 0, (cs_Amount x_41727)⟩), (0, ⟨42, 5, flat cs_Unit a2⟩), (1, ⟨31, 0, (cs_Ratio s_41680.1)⟩)], 3⟩ (by kernel_rfl) (leB rfl) ?_
        refine w_seq (fun K hK_41736 => w_reg0 ?_)
        refine dd_run 0 3 rfl (by kernel_rfl) ?_
        obtain ⟨x_41737, h_41738, h⟩ := bind_some' h
        refine dd_one 3 (.call ⟨.value (.tmp 24), #[(.tmp 25), (.tmp 26)], #[33, 3]⟩) (some 27) (by kernel_rfl) (o_callE [0] (g_estoppel_quantity_table_value_o_ok h_41738) (by kernel_rfl) (by kernel_rfl) (by kernel_rfl) rfl) ?_
        refine ops_fin' hK_41736 ⟨[(1, .bm 35 [.own 0 a2.length]), (2, .fn 40 [.ip [I a3]]), (3, .fn 41 [.ptr 1 0]), (11, I x_41732), (12, .ptr 3 0), (13, I x_41737.2), (14, sl 3 cs_Amount a1), (15, I (a1.length : Int)), (16, I s_41680.2)], [(3, ⟨31, 0, (cs_Ratio x_41737.1)⟩), (0, ⟨42, 5, flat cs_Unit a2⟩), (2, ⟨33, 0, (cs_Amount x_41727)⟩), (1, ⟨31, 0, (cs_Ratio s_41680.1)⟩)], 4⟩ (by kernel_rfl) (leB rfl) ?_
        refine w_assoc ?_
        refine w_reg ⟨[(1, .bm 35 [.own 0 a2.length]), (2, .fn 40 [.ip [I a3]]), (3, .fn 41 [.ptr 1 0]), (11, I x_41732), (12, .ptr 3 0), (13, I x_41737.2), (14, sl 3 cs_Amount a1), (15, I (a1.length : Int)), (16, I s_41680.2), (31, B (x_41737.2 == 0))], [(3, ⟨31, 0, (cs_Ratio x_41737.1)⟩), (0, ⟨42, 5, flat cs_Unit a2⟩), (2, ⟨33, 0, (cs_Amount x_41727)⟩), (1, ⟨31, 0, (cs_Ratio s_41680.1)⟩)], 4⟩ (by kernel_rfl) (leB rfl) ?_
        refine w_cut h (fun (e_41742 : D.Ratio × Int) => ⟨[(1, .bm 35 [.own 0 a2.length]), (2, .fn 40 [.ip [I a3]]), (3, .fn 41 [.ptr 1 0]), (13, I e_41742.2), (14, sl 3 cs_Amount a1), (15, I (a1.length : Int)), (16, I s_41680.2)], [(0, ⟨42, 5, flat cs_Unit a2⟩), (1, ⟨31, 0, (cs_Ratio e_41742.1)⟩)], 2⟩) (fun o h h_41743 K hK_41744 => ?_) (fun e_41742 h => ?_)
        · refine w_ite h (by kernel_rfl) (fun h_41745 h => ?_) (fun h_41745 h => ?_)
          · refine w_reg0 ?_
            refine dd_run 0 3 rfl (by kernel_rfl) ?_
            obtain ⟨x_41746, h_41747, h⟩ := bind_some' h
            refine dd_one 3 (.call ⟨.value (.tmp 32), #[(.tmp 33), (.tmp 34)], #[3, 31]⟩) (some 35) (by kernel_rfl) (o_callE [1] (g_quantity_Sum_2_ok h_41747) (by kernel_rfl) (by kernel_rfl) (by kernel_rfl) rfl) ?_
            refine dd_run 4 5 rfl (by kernel_rfl) ?_
            refine dd_nil 5 rfl ?_
            exact hK_41744 _ _ (Option.some.inj h).symm (to_ren [] (leB rfl) (by kernel_rfl) (by kernel_rfl) (renE_of (by kernel_rfl) (by kernel_rfl)) ⟨rePl (by kernel_rfl) (leB rfl) (flat_all _ (fun _ => rfl) _), ⟨reRn (by kernel_rfl) (leB rfl) (by kernel_rfl), trivial⟩⟩)
          · refine w_skip ?_
            exact hK_41744 _ _ (Option.some.inj h).symm (to_ren [] (leB rfl) (by kernel_rfl) (by kernel_rfl) (renE_of (by kernel_rfl) (by kernel_rfl)) ⟨rePl (by kernel_rfl) (leB rfl) (flat_all _ (fun _ => rfl) _), ⟨reRn (by kernel_rfl) (leB rfl) (by kernel_rfl), trivial⟩⟩)
        · refine w_reg ⟨[(1, .bm 35 [.own 0 a2.length]), (2, .fn 40 [.ip [I a3]]), (3, .fn 41 [.ptr 1 0]), (13, I e_41742.2), (14, sl 3 cs_Amount a1), (15, I (a1.length : Int)), (16, I s_41680.2), (37, B (e_41742.2 != 0))], [(0, ⟨42, 5, flat cs_Unit a2⟩), (1, ⟨31, 0, (cs_Ratio e_41742.1)⟩)], 2⟩ (by kernel_rfl) (leB rfl) ?_
          refine w_ite h (by kernel_rfl) (fun h_41748 h => ?_) (fun h_41748 h => ?_)
          · refine w_reg ⟨[(8, I e_41742.2)], [(0, ⟨42, 5, flat cs_Unit a2⟩), (1, ⟨31, 0, (cs_Ratio e_41742.1)⟩)], 2⟩ (by kernel_rfl) (leB rfl) ?_
            refine w_ret ?_
            obtain rfl := ((h_41544 _ (h_41681 _ (Option.some.inj h).symm).symm).symm).symm
            exact ret_leaf (.inl rfl) ⟨[(8, I e_41742.2)], [(0, ⟨42, 5, flat cs_Unit a2⟩), (1, ⟨31, 0, (cs_Ratio e_41742.1)⟩)], 2⟩ (to_ren [] (leB rfl) (by kernel_rfl) (by kernel_rfl) (renE_of (by kernel_rfl) (by kernel_rfl)) ⟨rePl (by kernel_rfl) (leB rfl) (flat_all _ (fun _ => rfl) _), ⟨reRn (by kernel_rfl) (leB rfl) (by kernel_rfl), trivial⟩⟩) [I e_41742.2] (by kernel_rfl) (by kernel_rfl) (leB rfl) (by kernel_rfl) ⟨⟨by kernel_rfl, leB rfl, (flat_all _ (fun _ => rfl) _)⟩, ⟨⟨by kernel_rfl, leB rfl, (by kernel_rfl)⟩, trivial⟩⟩
          · refine w_skip ?_
            refine hK_41717 _ ⟨[(1, .bm 35 [.own 0 a2.length]), (2, .fn 40 [.ip [I a3]]), (3, .fn 41 [.ptr 1 0]), (14, sl 3 cs_Amount a1), (15, I (a1.length : Int)), (16, I s_41680.2)], [(0, ⟨42, 5, flat cs_Unit a2⟩), (1, ⟨31, 0, (cs_Ratio e_41742.1)⟩)], 2⟩ (to_trim (by kernel_rfl) (leB rfl)) ?_
            refine w_reg0 ?_
            refine dd_run 0 2 rfl (by kernel_rfl) ?_
            refine dd_nil 2 rfl ?_
            exact hK_41682 _ _ (Option.some.inj h).symm (to_ren [] (leB rfl) (by kernel_rfl) (by kernel_rfl) (renE_of (by kernel_rfl) (by kernel_rfl)) ⟨rePl (by kernel_rfl) (leB rfl) (flat_all _ (fun _ => rfl) _), ⟨reRn (by kernel_rfl) (leB rfl) (by kernel_rfl), trivial⟩⟩)
      · refine w_exit ?_
        exact hK_41545 _ _ (h_41681 _ (Option.some.inj h).symm).symm (to_ren [] (leB rfl) (by kernel_rfl) (by kernel_rfl) (renE_of (by kernel_rfl) (by kernel_rfl)) ⟨rePl (by kernel_rfl) (leB rfl) (flat_all _ (fun _ => rfl) _), ⟨reRn (by kernel_rfl) (leB rfl) (by kernel_rfl), trivial⟩⟩)
  · refine w_reg ⟨[(8, I 0)], [(0, ⟨42, 5, flat cs_Unit a2⟩), (1, ⟨31, 0, (cs_Ratio e_41543)⟩)], 2⟩ (by kernel_rfl) (leB rfl) ?_
    refine w_ret ?_
    obtain rfl := ((Option.some.inj h).symm).symm
    exact ret_leaf (.inl rfl) ⟨[(8, I 0)], [(0, ⟨42, 5, flat cs_Unit a2⟩), (1, ⟨31, 0, (cs_Ratio e_41543)⟩)], 2⟩ (to_ren [] (leB rfl) (by kernel_rfl) (by kernel_rfl) (renE_of (by kernel_rfl) (by kernel_rfl)) ⟨rePl (by kernel_rfl) (leB rfl) (flat_all _ (fun _ => rfl) _), ⟨reRn (by kernel_rfl) (leB rfl) (by kernel_rfl), trivial⟩⟩) [I 0] (by kernel_rfl) (by kernel_rfl) (leB rfl) (by kernel_rfl) ⟨⟨by kernel_rfl, leB rfl, (flat_all _ (fun _ => rfl) _)⟩, ⟨⟨by kernel_rfl, leB rfl, (by kernel_rfl)⟩, trivial⟩⟩
end Go.Proofs.YtdfokoapenhalaaDoor.Ab
