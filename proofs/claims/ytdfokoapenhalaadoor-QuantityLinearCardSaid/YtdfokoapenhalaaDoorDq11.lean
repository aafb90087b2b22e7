/- Functions of the program as plain functions (printed by wip/dec.py). -/
import Derived.Test.YtdfokoapenhalaaDoorDq7
import Derived.Test.YtdfokoapenhalaaDoorDq9
import Derived.Test.YtdfokoapenhalaaDoorDq10
namespace Go.Proofs.YtdfokoapenhalaaDoor.Ab
open Go Go.RowKit Go.Shelf
/-- estoppel/estoppelref04.Convert -/
def g_estoppelref04_Convert (a1 : List D.Unit) (a2 : D.Amount) (a3 : Int) : Option (D.Amount × Int) :=
  (g_estoppelref04_Valid a1).bind fun x_35783 =>
  bindF (ρ := Bool) (
  if (!x_35783.2) = true then
  some (.inl true)
  else
  (g_estoppelref04_May a1 a2).bind fun x_35794 =>
  if (!x_35794) = true then
  some (.inl true)
  else
  if (decide (a3 < 0)) = true then
  some (.inl true)
  else
  some (.inl (decide (a3 ≥ (a1.length : Int))))) (fun (e_35790 : Bool) =>
  if e_35790 = true then
  some ((D.Amount.mk 0 (D.Ratio.mk 0 0)), 1)
  else
  (getI a1 a2.Unit).bind fun x_35816 =>
  (getI a1 a3).bind fun x_35820 =>
  if (x_35816.Base != x_35820.Base) = true then
  some ((D.Amount.mk 0 (D.Ratio.mk 0 0)), 11)
  else
  (getI a1 a2.Unit).bind fun x_35842 =>
  (getI a1 a3).bind fun x_35846 =>
  (g_estoppelref04_scaled a2.Value x_35842.Factor x_35846.Factor).bind fun x_35848 =>
  if (x_35848.2 != 0) = true then
  some ((D.Amount.mk 0 (D.Ratio.mk 0 0)), x_35848.2)
  else
  some ((D.Amount.mk a3 x_35848.1), 0))
set_option maxHeartbeats 4000000 in
theorem g_estoppelref04_Convert_ok {a1 : List D.Unit} {a2 : D.Amount} {a3 : Int} {res : D.Amount × Int} (h : g_estoppelref04_Convert a1 a2 a3 = some res) : SpecK Tryd.prog [] 18 [sl 5 cs_Unit a1, .agg (cs_Amount a2), I a3] [] 0 (.tup [.agg (cs_Amount res.1), I res.2]) [] 0 := by
  refine ⟨spec_of_wp Tryd.func18 (by kernel_rfl) rfl Tryd.ntmps18 (by rw [Tryd.results18]) (leB rfl) ?_, by kernel_rfl, trivial, by kernel_rfl, trivial, by kernel_rfl⟩
  unfold g_estoppelref04_Convert at h
  refine w_reg ⟨[(0, sl 5 cs_Unit a1), (2, I a3), (4, .ip (cs_Amount a2)), (6, .ptr 0 0)], [(0, ⟨33, 0, [I 0, I 0, I 0]⟩)], 1⟩ (by kernel_rfl) (leB rfl) ?_
  refine w_assoc ?_
  refine w_seq (fun K hK_35782 => w_reg0 ?_)
  refine dd_run 0 1 rfl (by kernel_rfl) ?_
  obtain ⟨x_35783, h_35784, h⟩ := bind_some' h
  refine dd_one 1 (.call ⟨.value (.func 14), #[(.tmp 13)], #[22]⟩) (some 14) (by kernel_rfl) (o_callP (g_estoppelref04_Valid_ok h_35784) (by kernel_rfl) rfl) ?_
  refine ops_fin' hK_35782 ⟨[(0, sl 5 cs_Unit a1), (2, I a3), (4, .ip (cs_Amount a2)), (6, .ptr 0 0), (9, B x_35783.2)], [(0, ⟨33, 0, [I 0, I 0, I 0]⟩)], 1⟩ (by kernel_rfl) (leB rfl) ?_
  refine w_assoc ?_
  refine w_cut h (fun (e_35790 : Bool) => ⟨[(0, sl 5 cs_Unit a1), (2, I a3), (4, .ip (cs_Amount a2)), (6, .ptr 0 0), (34, B e_35790)], [(0, ⟨33, 0, [I 0, I 0, I 0]⟩)], 1⟩) (fun o h h_35791 K hK_35792 => ?_) (fun e_35790 h => ?_)
  · refine w_reg0 ?_
    refine dd_run 0 3 rfl (by kernel_rfl) ?_
    refine ite_both h (fun h_35793 h => ?_) (fun h_35793 h => ?_)
    · refine dd_skip 3 7 2 false rfl (b := (!x_35783.2)) (by kernel_rfl) h_35793 (by kernel_rfl) ?_
      refine dd_one 7 (.pick (.tmp 19) (.const (.bool true)) (.tmp 23)) (some 24) (by kernel_rfl) (o_pure (B true) (ev_pickT h_35793 (by kernel_rfl) (by kernel_rfl)) rfl) ?_
      refine dd_run 8 9 rfl (by kernel_rfl) ?_
      refine dd_skip 9 11 8 false rfl (b := true) (by kernel_rfl) rfl (by kernel_rfl) ?_
      refine dd_run 11 13 rfl (by kernel_rfl) ?_
      refine dd_skip 13 17 12 false rfl (b := true) (by kernel_rfl) rfl (by kernel_rfl) ?_
      refine dd_run 17 18 rfl (by kernel_rfl) ?_
      refine dd_nil 18 rfl ?_
      exact hK_35792 _ _ (Option.some.inj h).symm (to_ren [] (leB rfl) (by kernel_rfl) (by kernel_rfl) (renE_of (by kernel_rfl) (by kernel_rfl)) ⟨reRn (by kernel_rfl) (leB rfl) (by kernel_rfl), trivial⟩)
    · refine dd_runG 3 5 2 false rfl (b := (!x_35783.2)) (by kernel_rfl) h_35793 (by kernel_rfl) ?_
      obtain ⟨x_35794, h_35795, h⟩ := bind_some' h
      refine dd_oneG 5 (.call ⟨.value (.func 36), #[(.tmp 20), (.tmp 21)], #[22, 33]⟩) (some 22) 2 false (b := (!x_35783.2)) (by kernel_rfl) (by kernel_rfl) h_35793 (o_callP (g_estoppelref04_May_ok h_35795) (by kernel_rfl) rfl) ?_
      refine dd_runG 6 7 2 false rfl (b := (!x_35783.2)) (by kernel_rfl) h_35793 (by kernel_rfl) ?_
      refine dd_one 7 (.pick (.tmp 19) (.const (.bool true)) (.tmp 23)) (some 24) (by kernel_rfl) (o_pure (B (!x_35794)) (ev_pickF h_35793 (by kernel_rfl) (by kernel_rfl)) rfl) ?_
      refine dd_run 8 9 rfl (by kernel_rfl) ?_
      refine ite_both h (fun h_35796 h => ?_) (fun h_35796 h => ?_)
      · refine dd_skip 9 11 8 false rfl (b := (!x_35794)) (by kernel_rfl) h_35796 (by kernel_rfl) ?_
        refine dd_one 11 (.pick (.tmp 25) (.const (.bool true)) (.tmp 27)) (some 28) (by kernel_rfl) (o_pure (B true) (ev_pickT h_35796 (by kernel_rfl) (by kernel_rfl)) rfl) ?_
        refine dd_run 12 13 rfl (by kernel_rfl) ?_
        refine dd_skip 13 17 12 false rfl (b := true) (by kernel_rfl) rfl (by kernel_rfl) ?_
        refine dd_run 17 18 rfl (by kernel_rfl) ?_
        refine dd_nil 18 rfl ?_
        exact hK_35792 _ _ (Option.some.inj h).symm (to_ren [] (leB rfl) (by kernel_rfl) (by kernel_rfl) (renE_of (by kernel_rfl) (by kernel_rfl)) ⟨reRn (by kernel_rfl) (leB rfl) (by kernel_rfl), trivial⟩)
      · refine dd_runG 9 11 8 false rfl (b := (!x_35794)) (by kernel_rfl) h_35796 (by kernel_rfl) ?_
        refine dd_one 11 (.pick (.tmp 25) (.const (.bool true)) (.tmp 27)) (some 28) (by kernel_rfl) (o_pure (B (decide (a3 < 0))) (ev_pickF h_35796 (by kernel_rfl) (by kernel_rfl)) rfl) ?_
        refine dd_run 12 13 rfl (by kernel_rfl) ?_
        refine ite_both h (fun h_35797 h => ?_) (fun h_35797 h => ?_)
        · refine dd_skip 13 17 12 false rfl (b := (decide (a3 < 0))) (by kernel_rfl) h_35797 (by kernel_rfl) ?_
          refine dd_one 17 (.pick (.tmp 29) (.const (.bool true)) (.tmp 33)) (some 34) (by kernel_rfl) (o_pure (B true) (ev_pickT h_35797 (by kernel_rfl) (by kernel_rfl)) rfl) ?_
          refine dd_nil 18 rfl ?_
          exact hK_35792 _ _ (Option.some.inj h).symm (to_ren [] (leB rfl) (by kernel_rfl) (by kernel_rfl) (renE_of (by kernel_rfl) (by kernel_rfl)) ⟨reRn (by kernel_rfl) (leB rfl) (by kernel_rfl), trivial⟩)
        · refine dd_runG 13 15 12 false rfl (b := (decide (a3 < 0))) (by kernel_rfl) h_35797 (by kernel_rfl) ?_
          refine dd_oneG 15 (.call ⟨.builtin .len, #[(.tmp 31)], #[22]⟩) (some 32) 12 false (b := (decide (a3 < 0))) (by kernel_rfl) (by kernel_rfl) h_35797 (o_pure (I (a1.length : Int)) (ev_len_sl (e := 42) (ty := 0) (k := 5) (c := cs_Unit) (by kernel_rfl) (by kernel_rfl)) rfl) ?_
          refine dd_runG 16 17 12 false rfl (b := (decide (a3 < 0))) (by kernel_rfl) h_35797 (by kernel_rfl) ?_
          refine dd_one 17 (.pick (.tmp 29) (.const (.bool true)) (.tmp 33)) (some 34) (by kernel_rfl) (o_pure (B (decide (a3 ≥ (a1.length : Int)))) (ev_pickF h_35797 (by kernel_rfl) (by kernel_rfl)) rfl) ?_
          refine dd_nil 18 rfl ?_
          exact hK_35792 _ _ (Option.some.inj h).symm (to_ren [] (leB rfl) (by kernel_rfl) (by kernel_rfl) (renE_of (by kernel_rfl) (by kernel_rfl)) ⟨reRn (by kernel_rfl) (leB rfl) (by kernel_rfl), trivial⟩)
  · refine w_seq (fun K hK_35799 => ?_)
    refine w_ite h (by kernel_rfl) (fun h_35800 h => ?_) (fun h_35800 h => ?_)
    · refine w_reg ⟨[(6, .ptr 0 0), (7, I 1)], [(0, ⟨33, 0, [I 0, I 0, I 0]⟩)], 1⟩ (by kernel_rfl) (leB rfl) ?_
      refine w_ret ?_
      obtain rfl := ((Option.some.inj h).symm).symm
      exact ret_leaf (.inl rfl) ⟨[(6, .ptr 0 0), (7, I 1)], [(0, ⟨33, 0, (cs_Amount (D.Amount.mk 0 (D.Ratio.mk 0 0)))⟩)], 1⟩ (to_ren [] (leB rfl) (by kernel_rfl) (by kernel_rfl) (renE_of (by kernel_rfl) (by kernel_rfl)) ⟨reRn (by kernel_rfl) (leB rfl) (by kernel_rfl), trivial⟩) [.agg (cs_Amount (D.Amount.mk 0 (D.Ratio.mk 0 0))), I 1] (by kernel_rfl) (by kernel_rfl) (leB rfl) (by kernel_rfl) trivial
    · refine w_skip ?_
      refine hK_35799 _ ⟨[(0, sl 5 cs_Unit a1), (2, I a3), (4, .ip (cs_Amount a2)), (6, .ptr 0 0)], [(0, ⟨33, 0, [I 0, I 0, I 0]⟩)], 1⟩ (to_trim (by kernel_rfl) (leB rfl)) ?_
      refine w_assoc ?_
      refine w_seq (fun K hK_35813 => w_mix0 (by kernel_rfl) (by kernel_rfl) ?_)
      refine mm_run 0 3 rfl (by kernel_rfl) ?_
      obtain ⟨x_35816, h_35817, h⟩ := bind_some' h
      refine mm_one 3 (.indexAddr 22 (.tmp 36) (.tmp 38)) (some 39) (by kernel_rfl) (by kernel_rfl) (oH_pure (.ip (cs_Unit x_35816)) (ev_idx_sl (e := 42) (k := 5) (c := cs_Unit) (ik := .i64) h_35817 (by kernel_rfl) (by kernel_rfl) (by kernel_rfl) (by kernel_rfl)) rfl) ?_
      refine mm_run 4 8 rfl (by kernel_rfl) ?_
      obtain ⟨x_35820, h_35821, h⟩ := bind_some' h
      refine mm_one 8 (.indexAddr 22 (.tmp 42) (.tmp 43)) (some 44) (by kernel_rfl) (by kernel_rfl) (oH_pure (.ip (cs_Unit x_35820)) (ev_idx_sl (e := 42) (k := 5) (c := cs_Unit) (ik := .i64) h_35821 (by kernel_rfl) (by kernel_rfl) (by kernel_rfl) (by kernel_rfl)) rfl) ?_
      refine mix_fin' hK_35813 ⟨[(0, sl 5 cs_Unit a1), (2, I a3), (4, .ip (cs_Amount a2)), (6, .ptr 0 0), (47, B (x_35816.Base != x_35820.Base))], [(0, ⟨33, 0, [I 0, I 0, I 0]⟩)], 1⟩ (by kernel_rfl) (leB rfl) ?_
      refine w_seq (fun K hK_35823 => ?_)
      refine w_ite h (by kernel_rfl) (fun h_35824 h => ?_) (fun h_35824 h => ?_)
      · refine w_reg ⟨[(6, .ptr 0 0), (7, I 11)], [(0, ⟨33, 0, [I 0, I 0, I 0]⟩)], 1⟩ (by kernel_rfl) (leB rfl) ?_
        refine w_ret ?_
        obtain rfl := ((Option.some.inj h).symm).symm
        exact ret_leaf (.inl rfl) ⟨[(6, .ptr 0 0), (7, I 11)], [(0, ⟨33, 0, (cs_Amount (D.Amount.mk 0 (D.Ratio.mk 0 0)))⟩)], 1⟩ (to_ren [] (leB rfl) (by kernel_rfl) (by kernel_rfl) (renE_of (by kernel_rfl) (by kernel_rfl)) ⟨reRn (by kernel_rfl) (leB rfl) (by kernel_rfl), trivial⟩) [.agg (cs_Amount (D.Amount.mk 0 (D.Ratio.mk 0 0))), I 11] (by kernel_rfl) (by kernel_rfl) (leB rfl) (by kernel_rfl) trivial
      · refine w_skip ?_
        refine hK_35823 _ ⟨[(0, sl 5 cs_Unit a1), (2, I a3), (4, .ip (cs_Amount a2)), (6, .ptr 0 0)], [(0, ⟨33, 0, [I 0, I 0, I 0]⟩)], 1⟩ (to_trim (by kernel_rfl) (leB rfl)) ?_
        refine w_seq (fun K hK_35839 => w_mix0 (by kernel_rfl) (by kernel_rfl) ?_)
        refine mm_run 0 5 rfl (by kernel_rfl) ?_
        obtain ⟨x_35842, h_35843, h⟩ := bind_some' h
        refine mm_one 5 (.indexAddr 22 (.tmp 52) (.tmp 54)) (some 55) (by kernel_rfl) (by kernel_rfl) (oH_pure (.ip (cs_Unit x_35842)) (ev_idx_sl (e := 42) (k := 5) (c := cs_Unit) (ik := .i64) h_35843 (by kernel_rfl) (by kernel_rfl) (by kernel_rfl) (by kernel_rfl)) rfl) ?_
        refine mm_run 6 10 rfl (by kernel_rfl) ?_
        obtain ⟨x_35846, h_35847, h⟩ := bind_some' h
        refine mm_one 10 (.indexAddr 22 (.tmp 58) (.tmp 59)) (some 60) (by kernel_rfl) (by kernel_rfl) (oH_pure (.ip (cs_Unit x_35846)) (ev_idx_sl (e := 42) (k := 5) (c := cs_Unit) (ik := .i64) h_35847 (by kernel_rfl) (by kernel_rfl) (by kernel_rfl) (by kernel_rfl)) rfl) ?_
        refine mm_run 11 13 rfl (by kernel_rfl) ?_
        obtain ⟨x_35848, h_35849, h⟩ := bind_some' h
        refine mm_one 13 (.call ⟨.value (.func 37), #[(.tmp 51), (.tmp 57), (.tmp 62)], #[31, 31, 31]⟩) (some 63) (by kernel_rfl) (by kernel_rfl) (oH_callP (g_estoppelref04_scaled_ok h_35849) (by kernel_rfl) rfl) ?_
        refine mm_run 14 17 rfl (by kernel_rfl) ?_
        refine mm_ops 17 (.alloc 31) (some 10) none (by kernel_rfl) (by kernel_rfl) ?_
        refine ops_fin' hK_35839 ⟨[(2, I a3), (6, .ptr 0 0), (10, .ptr 1 0), (11, I x_35848.2)], [(1, ⟨31, 0, (cs_Ratio x_35848.1)⟩), (0, ⟨33, 0, [I 0, I 0, I 0]⟩)], 2⟩ (by kernel_rfl) (leB rfl) ?_
        refine w_assoc ?_
        refine w_reg ⟨[(2, I a3), (6, .ptr 0 0), (10, .ptr 1 0), (11, I x_35848.2), (67, B (x_35848.2 != 0))], [(1, ⟨31, 0, (cs_Ratio x_35848.1)⟩), (0, ⟨33, 0, [I 0, I 0, I 0]⟩)], 2⟩ (by kernel_rfl) (leB rfl) ?_
        refine w_seq (fun K hK_35851 => ?_)
        refine w_ite h (by kernel_rfl) (fun h_35852 h => ?_) (fun h_35852 h => ?_)
        · refine w_reg ⟨[(6, .ptr 0 0), (7, I x_35848.2)], [(1, ⟨31, 0, (cs_Ratio x_35848.1)⟩), (0, ⟨33, 0, [I 0, I 0, I 0]⟩)], 2⟩ (by kernel_rfl) (leB rfl) ?_
          refine w_ret ?_
          obtain rfl := ((Option.some.inj h).symm).symm
          exact ret_leaf (.inl rfl) ⟨[(6, .ptr 0 0), (7, I x_35848.2)], [(0, ⟨33, 0, (cs_Amount (D.Amount.mk 0 (D.Ratio.mk 0 0)))⟩)], 1⟩ (to_ren [] (leB rfl) (by kernel_rfl) (by kernel_rfl) (renE_of (by kernel_rfl) (by kernel_rfl)) ⟨reRn (by kernel_rfl) (leB rfl) (by kernel_rfl), trivial⟩) [.agg (cs_Amount (D.Amount.mk 0 (D.Ratio.mk 0 0))), I x_35848.2] (by kernel_rfl) (by kernel_rfl) (leB rfl) (by kernel_rfl) trivial
        · refine w_skip ?_
          refine hK_35851 _ ⟨[(2, I a3), (6, .ptr 0 0), (10, .ptr 1 0)], [(1, ⟨31, 0, (cs_Ratio x_35848.1)⟩), (0, ⟨33, 0, [I 0, I 0, I 0]⟩)], 2⟩ (to_trim (by kernel_rfl) (leB rfl)) ?_
          refine w_reg ⟨[(6, .ptr 0 0), (7, I 0)], [(1, ⟨31, 0, (cs_Ratio x_35848.1)⟩), (0, ⟨33, 0, ([I a3] ++ (cs_Ratio x_35848.1))⟩)], 2⟩ (by kernel_rfl) (leB rfl) ?_
          refine w_ret ?_
          obtain rfl := ((Option.some.inj h).symm).symm
          exact ret_leaf (.inl rfl) ⟨[(6, .ptr 0 0), (7, I 0)], [(0, ⟨33, 0, (cs_Amount (D.Amount.mk a3 x_35848.1))⟩)], 1⟩ (to_ren [] (leB rfl) (by kernel_rfl) (by kernel_rfl) (renE_of (by kernel_rfl) (by kernel_rfl)) ⟨reRn (by kernel_rfl) (leB rfl) (by kernel_rfl), trivial⟩) [.agg (cs_Amount (D.Amount.mk a3 x_35848.1)), I 0] (by kernel_rfl) (by kernel_rfl) (leB rfl) (by kernel_rfl) trivial
/-- estoppel/estoppelref01.Add -/
def g_estoppelref01_Add (a1 : D.Ratio) (a2 : D.Ratio) : Option (D.Ratio × Int) :=
  bindF (ρ := Bool) (
  (g_estoppelref01_Valid a1).bind fun x_36574 =>
  if (!x_36574) = true then
  some (.inl true)
  else
  (g_estoppelref01_Valid a2).bind fun x_36577 =>
  some (.inl (!x_36577))) (fun (e_36571 : Bool) =>
  if e_36571 = true then
  some ((D.Ratio.mk 0 0), 1)
  else
  (g_estoppelref01_Make (IntKind.i64.wrap ((IntKind.i64.wrap (a1.Num * a2.Den)) + (IntKind.i64.wrap (a2.Num * a1.Den)))) (IntKind.i64.wrap (a1.Den * a2.Den))).bind fun x_36585 =>
  some (x_36585.1, x_36585.2))
set_option maxHeartbeats 4000000 in
theorem g_estoppelref01_Add_ok {a1 : D.Ratio} {a2 : D.Ratio} {res : D.Ratio × Int} (h : g_estoppelref01_Add a1 a2 = some res) : SpecK Tryd.prog [] 42 [.agg (cs_Ratio a1), .agg (cs_Ratio a2)] [] 0 (.tup [.agg (cs_Ratio res.1), I res.2]) [] 0 := by
  refine ⟨spec_of_wp Tryd.func42 (by kernel_rfl) rfl Tryd.ntmps42 (by rw [Tryd.results42]) (leB rfl) ?_, by kernel_rfl, trivial, by kernel_rfl, trivial, by kernel_rfl⟩
  unfold g_estoppelref01_Add at h
  refine w_reg ⟨[(2, .ip (cs_Ratio a1)), (3, .ip (cs_Ratio a2)), (4, .ptr 0 0)], [(0, ⟨31, 0, [I 0, I 0]⟩)], 1⟩ (by kernel_rfl) (leB rfl) ?_
  refine w_assoc ?_
  refine w_cut h (fun (e_36571 : Bool) => ⟨[(2, .ip (cs_Ratio a1)), (3, .ip (cs_Ratio a2)), (4, .ptr 0 0), (13, B e_36571)], [(0, ⟨31, 0, [I 0, I 0]⟩)], 1⟩) (fun o h h_36572 K hK_36573 => ?_) (fun e_36571 h => ?_)
  · refine w_reg0 ?_
    refine dd_run 0 1 rfl (by kernel_rfl) ?_
    obtain ⟨x_36574, h_36575, h⟩ := bind_some' h
    refine dd_one 1 (.call ⟨.value (.func 31), #[(.tmp 6)], #[31]⟩) (some 7) (by kernel_rfl) (o_callP (g_estoppelref01_Valid_ok h_36575) (by kernel_rfl) rfl) ?_
    refine dd_run 2 4 rfl (by kernel_rfl) ?_
    refine ite_both h (fun h_36576 h => ?_) (fun h_36576 h => ?_)
    · refine dd_skip 4 7 3 false rfl (b := (!x_36574)) (by kernel_rfl) h_36576 (by kernel_rfl) ?_
      refine dd_one 7 (.pick (.tmp 9) (.const (.bool true)) (.tmp 12)) (some 13) (by kernel_rfl) (o_pure (B true) (ev_pickT h_36576 (by kernel_rfl) (by kernel_rfl)) rfl) ?_
      refine dd_nil 8 rfl ?_
      exact hK_36573 _ _ (Option.some.inj h).symm (to_ren [] (leB rfl) (by kernel_rfl) (by kernel_rfl) (renE_of (by kernel_rfl) (by kernel_rfl)) ⟨reRn (by kernel_rfl) (leB rfl) (by kernel_rfl), trivial⟩)
    · refine dd_runG 4 5 3 false rfl (b := (!x_36574)) (by kernel_rfl) h_36576 (by kernel_rfl) ?_
      obtain ⟨x_36577, h_36578, h⟩ := bind_some' h
      refine dd_oneG 5 (.call ⟨.value (.func 31), #[(.tmp 10)], #[31]⟩) (some 11) 3 false (b := (!x_36574)) (by kernel_rfl) (by kernel_rfl) h_36576 (o_callP (g_estoppelref01_Valid_ok h_36578) (by kernel_rfl) rfl) ?_
      refine dd_runG 6 7 3 false rfl (b := (!x_36574)) (by kernel_rfl) h_36576 (by kernel_rfl) ?_
      refine dd_one 7 (.pick (.tmp 9) (.const (.bool true)) (.tmp 12)) (some 13) (by kernel_rfl) (o_pure (B (!x_36577)) (ev_pickF h_36576 (by kernel_rfl) (by kernel_rfl)) rfl) ?_
      refine dd_nil 8 rfl ?_
      exact hK_36573 _ _ (Option.some.inj h).symm (to_ren [] (leB rfl) (by kernel_rfl) (by kernel_rfl) (renE_of (by kernel_rfl) (by kernel_rfl)) ⟨reRn (by kernel_rfl) (leB rfl) (by kernel_rfl), trivial⟩)
  · refine w_seq (fun K hK_36580 => ?_)
    refine w_ite h (by kernel_rfl) (fun h_36581 h => ?_) (fun h_36581 h => ?_)
    · refine w_reg ⟨[(4, .ptr 0 0), (5, I 1)], [(0, ⟨31, 0, [I 0, I 0]⟩)], 1⟩ (by kernel_rfl) (leB rfl) ?_
      refine w_ret ?_
      obtain rfl := ((Option.some.inj h).symm).symm
      exact ret_leaf (.inl rfl) ⟨[(4, .ptr 0 0), (5, I 1)], [(0, ⟨31, 0, (cs_Ratio (D.Ratio.mk 0 0))⟩)], 1⟩ (to_ren [] (leB rfl) (by kernel_rfl) (by kernel_rfl) (renE_of (by kernel_rfl) (by kernel_rfl)) ⟨reRn (by kernel_rfl) (leB rfl) (by kernel_rfl), trivial⟩) [.agg (cs_Ratio (D.Ratio.mk 0 0)), I 1] (by kernel_rfl) (by kernel_rfl) (leB rfl) (by kernel_rfl) trivial
    · refine w_skip ?_
      refine hK_36580 _ ⟨[(2, .ip (cs_Ratio a1)), (3, .ip (cs_Ratio a2)), (4, .ptr 0 0)], [(0, ⟨31, 0, [I 0, I 0]⟩)], 1⟩ (to_trim (by kernel_rfl) (leB rfl)) ?_
      refine w_seq (fun K hK_36584 => w_reg0 ?_)
      refine dd_run 0 16 rfl (by kernel_rfl) ?_
      obtain ⟨x_36585, h_36586, h⟩ := bind_some' h
      refine dd_one 16 (.call ⟨.value (.func 55), #[(.tmp 25), (.tmp 30)], #[3, 3]⟩) (some 31) (by kernel_rfl) (o_callP (g_estoppelref01_Make_ok h_36586) (by kernel_rfl) rfl) ?_
      refine ops_fin' hK_36584 ⟨[(4, .ptr 0 0), (5, I x_36585.2)], [(0, ⟨31, 0, (cs_Ratio x_36585.1)⟩)], 1⟩ (by kernel_rfl) (leB rfl) ?_
      refine w_ret ?_
      obtain rfl := ((Option.some.inj h).symm).symm
      exact ret_leaf (.inl rfl) ⟨[(4, .ptr 0 0), (5, I x_36585.2)], [(0, ⟨31, 0, (cs_Ratio x_36585.1)⟩)], 1⟩ (to_ren [] (leB rfl) (by kernel_rfl) (by kernel_rfl) (renE_of (by kernel_rfl) (by kernel_rfl)) ⟨reRn (by kernel_rfl) (leB rfl) (by kernel_rfl), trivial⟩) [.agg (cs_Ratio x_36585.1), I x_36585.2] (by kernel_rfl) (by kernel_rfl) (leB rfl) (by kernel_rfl) trivial
end Go.Proofs.YtdfokoapenhalaaDoor.Ab
