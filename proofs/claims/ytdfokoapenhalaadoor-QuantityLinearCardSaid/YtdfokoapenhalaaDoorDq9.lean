/- Functions of the program as plain functions (printed by wip/dec.py). -/
import Derived.Test.YtdfokoapenhalaaDoorDq7
namespace Go.Proofs.YtdfokoapenhalaaDoor.Ab
open Go Go.RowKit Go.Shelf
/-- estoppel/estoppelref04.right -/
def g_estoppelref04_right (a1 : List D.Unit) (a2 : Int) : Option (Bool) :=
  (getI a1 a2).bind fun x_20451 =>
  bindF (ρ := Bool) (
  if (decide (a2 ≥ 20)) = true then
  some (.inl true)
  else
  if (x_20451.Name.toList == (ByteArray.mk #[]).toList) = true then
  some (.inl true)
  else
  if (x_20451.Kind != 1) = true then
  if (x_20451.Kind != 2) = true then
  some (.inl true)
  else
  (g_estoppelref01_Valid x_20451.Factor).bind fun x_20474 =>
  if (!x_20474) = true then
  some (.inl true)
  else
  if (decide (x_20451.Factor.Num < 1)) = true then
  some (.inl true)
  else
  if (decide (x_20451.Base < 0)) = true then
  some (.inl true)
  else
  some (.inl (decide (x_20451.Base ≥ (a1.length : Int))))
  else
  (g_estoppelref01_Valid x_20451.Factor).bind fun x_20479 =>
  if (!x_20479) = true then
  some (.inl true)
  else
  if (decide (x_20451.Factor.Num < 1)) = true then
  some (.inl true)
  else
  if (decide (x_20451.Base < 0)) = true then
  some (.inl true)
  else
  some (.inl (decide (x_20451.Base ≥ (a1.length : Int))))) (fun (e_20467 : Bool) =>
  if e_20467 = true then
  some false
  else
  bindF (ρ := Unit) (
  loopO (σ := Int) (fun s_20655 =>
  if (decide (s_20655 < a2)) = true then
  (getI a1 s_20655).bind fun x_20687 =>
  if (x_20687.Name.toList == x_20451.Name.toList) = true then
  some (.inr (.inr false))
  else
  some (.inl (IntKind.i64.wrap (s_20655 + 1)))
  else
  some (.inr (.inl ()))) 0) (fun (e_20586 : Unit) =>
  (getI a1 x_20451.Base).bind fun x_20699 =>
  if (x_20699.Base == x_20451.Base) = true then
  if (x_20699.Kind == x_20451.Kind) = true then
  if (x_20451.Base != a2) = true then
  some true
  else
  if (x_20451.Factor.Num == 1) = true then
  some (x_20451.Factor.Den == 1)
  else
  some false
  else
  some false
  else
  some false))
set_option maxHeartbeats 4000000 in
theorem g_estoppelref04_right_ok {a1 : List D.Unit} {a2 : Int} {res : Bool} (h : g_estoppelref04_right a1 a2 = some res) : SpecK Tryd.prog [] 29 [sl 5 cs_Unit a1, I a2] [] 0 (B res) [] 0 := by
  refine ⟨spec_of_wp Tryd.func29 (by kernel_rfl) rfl Tryd.ntmps29 (by rw [Tryd.results29]) (leB rfl) ?_, by kernel_rfl, trivial, by kernel_rfl, trivial, by kernel_rfl⟩
  unfold g_estoppelref04_right at h
  refine w_reg ⟨[(0, sl 5 cs_Unit a1), (1, I a2)], [], 0⟩ (by kernel_rfl) (leB rfl) ?_
  refine w_seq (fun K hK_20448 => w_reg0 ?_)
  refine dd_run 0 2 rfl (by kernel_rfl) ?_
  obtain ⟨x_20451, h_20452, h⟩ := bind_some' h
  refine dd_one 2 (.indexAddr 22 (.tmp 8) (.tmp 9)) (some 10) (by kernel_rfl) (o_pure (.ip (cs_Unit x_20451)) (ev_idx_sl (e := 42) (k := 5) (c := cs_Unit) (ik := .i64) h_20452 (by kernel_rfl) (by kernel_rfl) (by kernel_rfl) (by kernel_rfl)) rfl) ?_
  refine ops_fin' hK_20448 ⟨[(0, sl 5 cs_Unit a1), (1, I a2), (5, .ptr 0 0)], [(0, ⟨42, 0, (cs_Unit x_20451)⟩)], 1⟩ (by kernel_rfl) (leB rfl) ?_
  refine w_assoc ?_
  refine w_cut h (fun (e_20467 : Bool) => ⟨[(0, sl 5 cs_Unit a1), (1, I a2), (5, .ptr 0 0), (52, B e_20467)], [(0, ⟨42, 0, (cs_Unit x_20451)⟩)], 1⟩) (fun o h h_20468 K hK_20469 => ?_) (fun e_20467 h => ?_)
  · refine w_reg0 ?_
    refine dd_run 0 3 rfl (by kernel_rfl) ?_
    refine ite_both h (fun h_20470 h => ?_) (fun h_20470 h => ?_)
    · refine dd_skip 3 6 2 false rfl (b := (decide (a2 ≥ 20))) (by kernel_rfl) h_20470 (by kernel_rfl) ?_
      refine dd_one 6 (.pick (.tmp 14) (.const (.bool true)) (.tmp 17)) (some 18) (by kernel_rfl) (o_pure (B true) (ev_pickT h_20470 (by kernel_rfl) (by kernel_rfl)) rfl) ?_
      refine dd_run 7 8 rfl (by kernel_rfl) ?_
      refine dd_skip 8 12 7 false rfl (b := true) (by kernel_rfl) rfl (by kernel_rfl) ?_
      refine dd_skipU 12 15 11 true rfl (by kernel_rfl) (by kernel_rfl) ?_
      refine dd_skip 15 16 7 false rfl (b := true) (by kernel_rfl) rfl (by kernel_rfl) ?_
      refine dd_run 16 18 rfl (by kernel_rfl) ?_
      refine dd_skip 18 22 17 false rfl (b := true) (by kernel_rfl) rfl (by kernel_rfl) ?_
      refine dd_run 22 24 rfl (by kernel_rfl) ?_
      refine dd_skip 24 28 23 false rfl (b := true) (by kernel_rfl) rfl (by kernel_rfl) ?_
      refine dd_run 28 30 rfl (by kernel_rfl) ?_
      refine dd_skip 30 33 29 false rfl (b := true) (by kernel_rfl) rfl (by kernel_rfl) ?_
      refine dd_run 33 35 rfl (by kernel_rfl) ?_
      refine dd_skip 35 40 34 false rfl (b := true) (by kernel_rfl) rfl (by kernel_rfl) ?_
      refine dd_run 40 41 rfl (by kernel_rfl) ?_
      refine dd_nil 41 rfl ?_
      exact hK_20469 _ _ (Option.some.inj h).symm (to_ren [] (leB rfl) (by kernel_rfl) (by kernel_rfl) (renE_of (by kernel_rfl) (by kernel_rfl)) ⟨reRn (by kernel_rfl) (leB rfl) (by kernel_rfl), trivial⟩)
    · refine dd_runG 3 6 2 false rfl (b := (decide (a2 ≥ 20))) (by kernel_rfl) h_20470 (by kernel_rfl) ?_
      refine dd_one 6 (.pick (.tmp 14) (.const (.bool true)) (.tmp 17)) (some 18) (by kernel_rfl) (o_pure (B (x_20451.Name.toList == (ByteArray.mk #[]).toList)) (ev_pickF h_20470 (by kernel_rfl) (by kernel_rfl)) rfl) ?_
      refine dd_run 7 8 rfl (by kernel_rfl) ?_
      refine ite_both h (fun h_20471 h => ?_) (fun h_20471 h => ?_)
      · refine dd_skip 8 12 7 false rfl (b := (x_20451.Name.toList == (ByteArray.mk #[]).toList)) (by kernel_rfl) h_20471 (by kernel_rfl) ?_
        refine dd_skipU 12 15 11 true rfl (by kernel_rfl) (by kernel_rfl) ?_
        refine dd_skip 15 16 7 false rfl (b := (x_20451.Name.toList == (ByteArray.mk #[]).toList)) (by kernel_rfl) h_20471 (by kernel_rfl) ?_
        refine dd_one 16 (.pick (.tmp 19) (.const (.bool true)) (.tmp 27)) (some 28) (by kernel_rfl) (o_pure (B true) (ev_pickT h_20471 (by kernel_rfl) (by kernel_rfl)) rfl) ?_
        refine dd_run 17 18 rfl (by kernel_rfl) ?_
        refine dd_skip 18 22 17 false rfl (b := true) (by kernel_rfl) rfl (by kernel_rfl) ?_
        refine dd_run 22 24 rfl (by kernel_rfl) ?_
        refine dd_skip 24 28 23 false rfl (b := true) (by kernel_rfl) rfl (by kernel_rfl) ?_
        refine dd_run 28 30 rfl (by kernel_rfl) ?_
        refine dd_skip 30 33 29 false rfl (b := true) (by kernel_rfl) rfl (by kernel_rfl) ?_
        refine dd_run 33 35 rfl (by kernel_rfl) ?_
        refine dd_skip 35 40 34 false rfl (b := true) (by kernel_rfl) rfl (by kernel_rfl) ?_
        refine dd_run 40 41 rfl (by kernel_rfl) ?_
        refine dd_nil 41 rfl ?_
        exact hK_20469 _ _ (Option.some.inj h).symm (to_ren [] (leB rfl) (by kernel_rfl) (by kernel_rfl) (renE_of (by kernel_rfl) (by kernel_rfl)) ⟨reRn (by kernel_rfl) (leB rfl) (by kernel_rfl), trivial⟩)
      · refine dd_runG 8 12 7 false rfl (b := (x_20451.Name.toList == (ByteArray.mk #[]).toList)) (by kernel_rfl) h_20471 (by kernel_rfl) ?_
        refine ite_both h (fun h_20472 h => ?_) (fun h_20472 h => ?_)
        · refine dd_runG 12 15 11 true rfl (b := (x_20451.Kind != 1)) (by kernel_rfl) h_20472 (by kernel_rfl) ?_
          refine dd_oneG 15 (.pick (.tmp 23) (.tmp 26) (.const (.bool false))) (some 27) 7 false (b := (x_20451.Name.toList == (ByteArray.mk #[]).toList)) (by kernel_rfl) (by kernel_rfl) h_20471 (o_pure (B (x_20451.Kind != 2)) (ev_pickT h_20472 (by kernel_rfl) (by kernel_rfl)) rfl) ?_
          refine dd_one 16 (.pick (.tmp 19) (.const (.bool true)) (.tmp 27)) (some 28) (by kernel_rfl) (o_pure (B (x_20451.Kind != 2)) (ev_pickF h_20471 (by kernel_rfl) (by kernel_rfl)) rfl) ?_
          refine dd_run 17 18 rfl (by kernel_rfl) ?_
          refine ite_both h (fun h_20473 h => ?_) (fun h_20473 h => ?_)
          · refine dd_skip 18 22 17 false rfl (b := (x_20451.Kind != 2)) (by kernel_rfl) h_20473 (by kernel_rfl) ?_
            refine dd_one 22 (.pick (.tmp 29) (.const (.bool true)) (.tmp 33)) (some 34) (by kernel_rfl) (o_pure (B true) (ev_pickT h_20473 (by kernel_rfl) (by kernel_rfl)) rfl) ?_
            refine dd_run 23 24 rfl (by kernel_rfl) ?_
            refine dd_skip 24 28 23 false rfl (b := true) (by kernel_rfl) rfl (by kernel_rfl) ?_
            refine dd_run 28 30 rfl (by kernel_rfl) ?_
            refine dd_skip 30 33 29 false rfl (b := true) (by kernel_rfl) rfl (by kernel_rfl) ?_
            refine dd_run 33 35 rfl (by kernel_rfl) ?_
            refine dd_skip 35 40 34 false rfl (b := true) (by kernel_rfl) rfl (by kernel_rfl) ?_
            refine dd_run 40 41 rfl (by kernel_rfl) ?_
            refine dd_nil 41 rfl ?_
            exact hK_20469 _ _ (Option.some.inj h).symm (to_ren [] (leB rfl) (by kernel_rfl) (by kernel_rfl) (renE_of (by kernel_rfl) (by kernel_rfl)) ⟨reRn (by kernel_rfl) (leB rfl) (by kernel_rfl), trivial⟩)
          · refine dd_runG 18 20 17 false rfl (b := (x_20451.Kind != 2)) (by kernel_rfl) h_20473 (by kernel_rfl) ?_
            obtain ⟨x_20474, h_20475, h⟩ := bind_some' h
            refine dd_oneG 20 (.call ⟨.value (.func 31), #[(.tmp 31)], #[31]⟩) (some 32) 17 false (b := (x_20451.Kind != 2)) (by kernel_rfl) (by kernel_rfl) h_20473 (o_callP (g_estoppelref01_Valid_ok h_20475) (by kernel_rfl) rfl) ?_
            refine dd_runG 21 22 17 false rfl (b := (x_20451.Kind != 2)) (by kernel_rfl) h_20473 (by kernel_rfl) ?_
            refine dd_one 22 (.pick (.tmp 29) (.const (.bool true)) (.tmp 33)) (some 34) (by kernel_rfl) (o_pure (B (!x_20474)) (ev_pickF h_20473 (by kernel_rfl) (by kernel_rfl)) rfl) ?_
            refine dd_run 23 24 rfl (by kernel_rfl) ?_
            refine ite_both h (fun h_20476 h => ?_) (fun h_20476 h => ?_)
            · refine dd_skip 24 28 23 false rfl (b := (!x_20474)) (by kernel_rfl) h_20476 (by kernel_rfl) ?_
              refine dd_one 28 (.pick (.tmp 35) (.const (.bool true)) (.tmp 39)) (some 40) (by kernel_rfl) (o_pure (B true) (ev_pickT h_20476 (by kernel_rfl) (by kernel_rfl)) rfl) ?_
              refine dd_run 29 30 rfl (by kernel_rfl) ?_
              refine dd_skip 30 33 29 false rfl (b := true) (by kernel_rfl) rfl (by kernel_rfl) ?_
              refine dd_run 33 35 rfl (by kernel_rfl) ?_
              refine dd_skip 35 40 34 false rfl (b := true) (by kernel_rfl) rfl (by kernel_rfl) ?_
              refine dd_run 40 41 rfl (by kernel_rfl) ?_
              refine dd_nil 41 rfl ?_
              exact hK_20469 _ _ (Option.some.inj h).symm (to_ren [] (leB rfl) (by kernel_rfl) (by kernel_rfl) (renE_of (by kernel_rfl) (by kernel_rfl)) ⟨reRn (by kernel_rfl) (leB rfl) (by kernel_rfl), trivial⟩)
            · refine dd_runG 24 28 23 false rfl (b := (!x_20474)) (by kernel_rfl) h_20476 (by kernel_rfl) ?_
              refine dd_one 28 (.pick (.tmp 35) (.const (.bool true)) (.tmp 39)) (some 40) (by kernel_rfl) (o_pure (B (decide (x_20451.Factor.Num < 1))) (ev_pickF h_20476 (by kernel_rfl) (by kernel_rfl)) rfl) ?_
              refine dd_run 29 30 rfl (by kernel_rfl) ?_
              refine ite_both h (fun h_20477 h => ?_) (fun h_20477 h => ?_)
              · refine dd_skip 30 33 29 false rfl (b := (decide (x_20451.Factor.Num < 1))) (by kernel_rfl) h_20477 (by kernel_rfl) ?_
                refine dd_one 33 (.pick (.tmp 41) (.const (.bool true)) (.tmp 44)) (some 45) (by kernel_rfl) (o_pure (B true) (ev_pickT h_20477 (by kernel_rfl) (by kernel_rfl)) rfl) ?_
                refine dd_run 34 35 rfl (by kernel_rfl) ?_
                refine dd_skip 35 40 34 false rfl (b := true) (by kernel_rfl) rfl (by kernel_rfl) ?_
                refine dd_run 40 41 rfl (by kernel_rfl) ?_
                refine dd_nil 41 rfl ?_
                exact hK_20469 _ _ (Option.some.inj h).symm (to_ren [] (leB rfl) (by kernel_rfl) (by kernel_rfl) (renE_of (by kernel_rfl) (by kernel_rfl)) ⟨reRn (by kernel_rfl) (leB rfl) (by kernel_rfl), trivial⟩)
              · refine dd_runG 30 33 29 false rfl (b := (decide (x_20451.Factor.Num < 1))) (by kernel_rfl) h_20477 (by kernel_rfl) ?_
                refine dd_one 33 (.pick (.tmp 41) (.const (.bool true)) (.tmp 44)) (some 45) (by kernel_rfl) (o_pure (B (decide (x_20451.Base < 0))) (ev_pickF h_20477 (by kernel_rfl) (by kernel_rfl)) rfl) ?_
                refine dd_run 34 35 rfl (by kernel_rfl) ?_
                refine ite_both h (fun h_20478 h => ?_) (fun h_20478 h => ?_)
                · refine dd_skip 35 40 34 false rfl (b := (decide (x_20451.Base < 0))) (by kernel_rfl) h_20478 (by kernel_rfl) ?_
                  refine dd_one 40 (.pick (.tmp 46) (.const (.bool true)) (.tmp 51)) (some 52) (by kernel_rfl) (o_pure (B true) (ev_pickT h_20478 (by kernel_rfl) (by kernel_rfl)) rfl) ?_
                  refine dd_nil 41 rfl ?_
                  exact hK_20469 _ _ (Option.some.inj h).symm (to_ren [] (leB rfl) (by kernel_rfl) (by kernel_rfl) (renE_of (by kernel_rfl) (by kernel_rfl)) ⟨reRn (by kernel_rfl) (leB rfl) (by kernel_rfl), trivial⟩)
                · refine dd_runG 35 38 34 false rfl (b := (decide (x_20451.Base < 0))) (by kernel_rfl) h_20478 (by kernel_rfl) ?_
                  refine dd_oneG 38 (.call ⟨.builtin .len, #[(.tmp 49)], #[22]⟩) (some 50) 34 false (b := (decide (x_20451.Base < 0))) (by kernel_rfl) (by kernel_rfl) h_20478 (o_pure (I (a1.length : Int)) (ev_len_sl (e := 42) (ty := 0) (k := 5) (c := cs_Unit) (by kernel_rfl) (by kernel_rfl)) rfl) ?_
                  refine dd_runG 39 40 34 false rfl (b := (decide (x_20451.Base < 0))) (by kernel_rfl) h_20478 (by kernel_rfl) ?_
                  refine dd_one 40 (.pick (.tmp 46) (.const (.bool true)) (.tmp 51)) (some 52) (by kernel_rfl) (o_pure (B (decide (x_20451.Base ≥ (a1.length : Int)))) (ev_pickF h_20478 (by kernel_rfl) (by kernel_rfl)) rfl) ?_
                  refine dd_nil 41 rfl ?_
                  exact hK_20469 _ _ (Option.some.inj h).symm (to_ren [] (leB rfl) (by kernel_rfl) (by kernel_rfl) (renE_of (by kernel_rfl) (by kernel_rfl)) ⟨reRn (by kernel_rfl) (leB rfl) (by kernel_rfl), trivial⟩)
        · refine dd_skip 12 15 11 true rfl (b := (x_20451.Kind != 1)) (by kernel_rfl) h_20472 (by kernel_rfl) ?_
          refine dd_oneG 15 (.pick (.tmp 23) (.tmp 26) (.const (.bool false))) (some 27) 7 false (b := (x_20451.Name.toList == (ByteArray.mk #[]).toList)) (by kernel_rfl) (by kernel_rfl) h_20471 (o_pure (B false) (ev_pickF h_20472 (by kernel_rfl) (by kernel_rfl)) rfl) ?_
          refine dd_one 16 (.pick (.tmp 19) (.const (.bool true)) (.tmp 27)) (some 28) (by kernel_rfl) (o_pure (B false) (ev_pickF h_20471 (by kernel_rfl) (by kernel_rfl)) rfl) ?_
          refine dd_run 17 18 rfl (by kernel_rfl) ?_
          refine dd_runG 18 20 17 false rfl (b := false) (by kernel_rfl) rfl (by kernel_rfl) ?_
          obtain ⟨x_20479, h_20480, h⟩ := bind_some' h
          refine dd_oneG 20 (.call ⟨.value (.func 31), #[(.tmp 31)], #[31]⟩) (some 32) 17 false (b := false) (by kernel_rfl) (by kernel_rfl) rfl (o_callP (g_estoppelref01_Valid_ok h_20480) (by kernel_rfl) rfl) ?_
          refine dd_runG 21 22 17 false rfl (b := false) (by kernel_rfl) rfl (by kernel_rfl) ?_
          refine dd_run 22 24 rfl (by kernel_rfl) ?_
          refine ite_both h (fun h_20481 h => ?_) (fun h_20481 h => ?_)
          · refine dd_skip 24 28 23 false rfl (b := (!x_20479)) (by kernel_rfl) h_20481 (by kernel_rfl) ?_
            refine dd_one 28 (.pick (.tmp 35) (.const (.bool true)) (.tmp 39)) (some 40) (by kernel_rfl) (o_pure (B true) (ev_pickT h_20481 (by kernel_rfl) (by kernel_rfl)) rfl) ?_
            refine dd_run 29 30 rfl (by kernel_rfl) ?_
            refine dd_skip 30 33 29 false rfl (b := true) (by kernel_rfl) rfl (by kernel_rfl) ?_
            refine dd_run 33 35 rfl (by kernel_rfl) ?_
            refine dd_skip 35 40 34 false rfl (b := true) (by kernel_rfl) rfl (by kernel_rfl) ?_
            refine dd_run 40 41 rfl (by kernel_rfl) ?_
            refine dd_nil 41 rfl ?_
            exact hK_20469 _ _ (Option.some.inj h).symm (to_ren [] (leB rfl) (by kernel_rfl) (by kernel_rfl) (renE_of (by kernel_rfl) (by kernel_rfl)) ⟨reRn (by kernel_rfl) (leB rfl) (by kernel_rfl), trivial⟩)
          · refine dd_runG 24 28 23 false rfl (b := (!x_20479)) (by kernel_rfl) h_20481 (by kernel_rfl) ?_
            refine dd_one 28 (.pick (.tmp 35) (.const (.bool true)) (.tmp 39)) (some 40) (by kernel_rfl) (o_pure (B (decide (x_20451.Factor.Num < 1))) (ev_pickF h_20481 (by kernel_rfl) (by kernel_rfl)) rfl) ?_
            refine dd_run 29 30 rfl (by kernel_rfl) ?_
            refine ite_both h (fun h_20482 h => ?_) (fun h_20482 h => ?_)
            · refine dd_skip 30 33 29 false rfl (b := (decide (x_20451.Factor.Num < 1))) (by kernel_rfl) h_20482 (by kernel_rfl) ?_
              refine dd_one 33 (.pick (.tmp 41) (.const (.bool true)) (.tmp 44)) (some 45) (by kernel_rfl) (o_pure (B true) (ev_pickT h_20482 (by kernel_rfl) (by kernel_rfl)) rfl) ?_
              refine dd_run 34 35 rfl (by kernel_rfl) ?_
              refine dd_skip 35 40 34 false rfl (b := true) (by kernel_rfl) rfl (by kernel_rfl) ?_
              refine dd_run 40 41 rfl (by kernel_rfl) ?_
              refine dd_nil 41 rfl ?_
              exact hK_20469 _ _ (Option.some.inj h).symm (to_ren [] (leB rfl) (by kernel_rfl) (by kernel_rfl) (renE_of (by kernel_rfl) (by kernel_rfl)) ⟨reRn (by kernel_rfl) (leB rfl) (by kernel_rfl), trivial⟩)
            · refine dd_runG 30 33 29 false rfl (b := (decide (x_20451.Factor.Num < 1))) (by kernel_rfl) h_20482 (by kernel_rfl) ?_
              refine dd_one 33 (.pick (.tmp 41) (.const (.bool true)) (.tmp 44)) (some 45) (by kernel_rfl) (o_pure (B (decide (x_20451.Base < 0))) (ev_pickF h_20482 (by kernel_rfl) (by kernel_rfl)) rfl) ?_
              refine dd_run 34 35 rfl (by kernel_rfl) ?_
              refine ite_both h (fun h_20483 h => ?_) (fun h_20483 h => ?_)
              · refine dd_skip 35 40 34 false rfl (b := (decide (x_20451.Base < 0))) (by kernel_rfl) h_20483 (by kernel_rfl) ?_
                refine dd_one 40 (.pick (.tmp 46) (.const (.bool true)) (.tmp 51)) (some 52) (by kernel_rfl) (o_pure (B true) (ev_pickT h_20483 (by kernel_rfl) (by kernel_rfl)) rfl) ?_
                refine dd_nil 41 rfl ?_
                exact hK_20469 _ _ (Option.some.inj h).symm (to_ren [] (leB rfl) (by kernel_rfl) (by kernel_rfl) (renE_of (by kernel_rfl) (by kernel_rfl)) ⟨reRn (by kernel_rfl) (leB rfl) (by kernel_rfl), trivial⟩)
              · refine dd_runG 35 38 34 false rfl (b := (decide (x_20451.Base < 0))) (by kernel_rfl) h_20483 (by kernel_rfl) ?_
                refine dd_oneG 38 (.call ⟨.builtin .len, #[(.tmp 49)], #[22]⟩) (some 50) 34 false (b := (decide (x_20451.Base < 0))) (by kernel_rfl) (by kernel_rfl) h_20483 (o_pure (I (a1.length : Int)) (ev_len_sl (e := 42) (ty := 0) (k := 5) (c := cs_Unit) (by kernel_rfl) (by kernel_rfl)) rfl) ?_
                refine dd_runG 39 40 34 false rfl (b := (decide (x_20451.Base < 0))) (by kernel_rfl) h_20483 (by kernel_rfl) ?_
                refine dd_one 40 (.pick (.tmp 46) (.const (.bool true)) (.tmp 51)) (some 52) (by kernel_rfl) (o_pure (B (decide (x_20451.Base ≥ (a1.length : Int)))) (ev_pickF h_20483 (by kernel_rfl) (by kernel_rfl)) rfl) ?_
                refine dd_nil 41 rfl ?_
                exact hK_20469 _ _ (Option.some.inj h).symm (to_ren [] (leB rfl) (by kernel_rfl) (by kernel_rfl) (renE_of (by kernel_rfl) (by kernel_rfl)) ⟨reRn (by kernel_rfl) (leB rfl) (by kernel_rfl), trivial⟩)
  · refine w_seq (fun K hK_20485 => ?_)
    refine w_ite h (by kernel_rfl) (fun h_20486 h => ?_) (fun h_20486 h => ?_)
    · refine w_reg ⟨[(4, B false)], [(0, ⟨42, 0, (cs_Unit x_20451)⟩)], 1⟩ (by kernel_rfl) (leB rfl) ?_
      refine w_ret ?_
      obtain rfl := ((Option.some.inj h).symm).symm
      exact ret_leaf (.inl rfl) ⟨[(4, B false)], [], 0⟩ (to_ren [] (leB rfl) (by kernel_rfl) (by kernel_rfl) (renE_of (by kernel_rfl) (by kernel_rfl)) trivial) [B false] (by kernel_rfl) (by kernel_rfl) (leB rfl) (by kernel_rfl) trivial
    · refine w_skip ?_
      refine hK_20485 _ ⟨[(0, sl 5 cs_Unit a1), (1, I a2), (5, .ptr 0 0)], [(0, ⟨42, 0, (cs_Unit x_20451)⟩)], 1⟩ (to_trim (by kernel_rfl) (leB rfl)) ?_
      refine w_assoc ?_
      refine w_reg ⟨[(0, sl 5 cs_Unit a1), (1, I a2), (5, .ptr 0 0), (6, I 0)], [(0, ⟨42, 0, (cs_Unit x_20451)⟩)], 1⟩ (by kernel_rfl) (leB rfl) ?_
      refine w_cut h (fun (e_20586 : Unit) => ⟨[(0, sl 5 cs_Unit a1), (1, I a2), (5, .ptr 0 0)], [(0, ⟨42, 0, (cs_Unit x_20451)⟩)], 1⟩) (fun o h h_20587 K hK_20588 => ?_) (fun e_20586 h => ?_)
      · refine w_block ?_
        refine w_loopO h (fun (s_20655 : Int) => ⟨[(0, sl 5 cs_Unit a1), (1, I a2), (5, .ptr 0 0), (6, I s_20655)], [(0, ⟨42, 0, (cs_Unit x_20451)⟩)], 1⟩) (to_ren [] (leB rfl) (by kernel_rfl) (by kernel_rfl) (renE_of (by kernel_rfl) (by kernel_rfl)) ⟨reRn (by kernel_rfl) (leB rfl) (by kernel_rfl), trivial⟩) (fun s_20655 o h h_20656 K hK_20657 => ?_)
        · refine w_assoc ?_
          refine w_reg ⟨[(0, sl 5 cs_Unit a1), (1, I a2), (5, .ptr 0 0), (6, I s_20655), (55, B (decide (s_20655 < a2)))], [(0, ⟨42, 0, (cs_Unit x_20451)⟩)], 1⟩ (by kernel_rfl) (leB rfl) ?_
          refine w_seq (fun K hK_20659 => ?_)
          refine w_ite h (by kernel_rfl) (fun h_20660 h => ?_) (fun h_20660 h => ?_)
          · refine w_skip ?_
            refine hK_20659 _ ⟨[(0, sl 5 cs_Unit a1), (1, I a2), (5, .ptr 0 0), (6, I s_20655)], [(0, ⟨42, 0, (cs_Unit x_20451)⟩)], 1⟩ (to_trim (by kernel_rfl) (leB rfl)) ?_
            refine w_seq (fun K hK_20675 => ?_)
            refine w_block ?_
            refine w_seq (fun K hK_20684 => w_mix0 (by kernel_rfl) (by kernel_rfl) ?_)
            refine mm_run 0 2 rfl (by kernel_rfl) ?_
            obtain ⟨x_20687, h_20688, h⟩ := bind_some' h
            refine mm_one 2 (.indexAddr 22 (.tmp 58) (.tmp 59)) (some 60) (by kernel_rfl) (by kernel_rfl) (oH_pure (.ip (cs_Unit x_20687)) (ev_idx_sl (e := 42) (k := 5) (c := cs_Unit) (ik := .i64) h_20688 (by kernel_rfl) (by kernel_rfl) (by kernel_rfl) (by kernel_rfl)) rfl) ?_
            refine mix_fin' hK_20684 ⟨[(0, sl 5 cs_Unit a1), (1, I a2), (5, .ptr 0 0), (6, I s_20655), (65, B (x_20687.Name.toList == x_20451.Name.toList))], [(0, ⟨42, 0, (cs_Unit x_20451)⟩)], 1⟩ (by kernel_rfl) (leB rfl) ?_
            refine w_ite h (by kernel_rfl) (fun h_20689 h => ?_) (fun h_20689 h => ?_)
            · refine w_reg ⟨[(4, B false)], [(0, ⟨42, 0, (cs_Unit x_20451)⟩)], 1⟩ (by kernel_rfl) (leB rfl) ?_
              refine w_ret ?_
              obtain rfl := ((h_20587 _ (h_20656 _ (Option.some.inj h).symm).symm).symm).symm
              exact ret_leaf (.inl rfl) ⟨[(4, B false)], [], 0⟩ (to_ren [] (leB rfl) (by kernel_rfl) (by kernel_rfl) (renE_of (by kernel_rfl) (by kernel_rfl)) trivial) [B false] (by kernel_rfl) (by kernel_rfl) (leB rfl) (by kernel_rfl) trivial
            · refine w_skip ?_
              refine hK_20675 _ ⟨[(0, sl 5 cs_Unit a1), (1, I a2), (5, .ptr 0 0), (6, I s_20655)], [(0, ⟨42, 0, (cs_Unit x_20451)⟩)], 1⟩ (to_trim (by kernel_rfl) (leB rfl)) ?_
              refine w_reg0 ?_
              refine dd_run 0 3 rfl (by kernel_rfl) ?_
              refine dd_nil 3 rfl ?_
              exact hK_20657 _ _ (Option.some.inj h).symm (to_ren [] (leB rfl) (by kernel_rfl) (by kernel_rfl) (renE_of (by kernel_rfl) (by kernel_rfl)) ⟨reRn (by kernel_rfl) (leB rfl) (by kernel_rfl), trivial⟩)
          · refine w_exit ?_
            exact hK_20588 _ _ (h_20656 _ (Option.some.inj h).symm).symm (to_ren [] (leB rfl) (by kernel_rfl) (by kernel_rfl) (renE_of (by kernel_rfl) (by kernel_rfl)) ⟨reRn (by kernel_rfl) (leB rfl) (by kernel_rfl), trivial⟩)
      · refine w_seq (fun K hK_20696 => w_reg0 ?_)
        refine dd_run 0 3 rfl (by kernel_rfl) ?_
        obtain ⟨x_20699, h_20700, h⟩ := bind_some' h
        refine dd_one 3 (.indexAddr 22 (.tmp 66) (.tmp 68)) (some 69) (by kernel_rfl) (o_pure (.ip (cs_Unit x_20699)) (ev_idx_sl (e := 42) (k := 5) (c := cs_Unit) (ik := .i64) h_20700 (by kernel_rfl) (by kernel_rfl) (by kernel_rfl) (by kernel_rfl)) rfl) ?_
        refine ops_fin' hK_20696 ⟨[(1, I a2), (5, .ptr 0 0), (7, .ptr 1 0)], [(1, ⟨42, 0, (cs_Unit x_20699)⟩), (0, ⟨42, 0, (cs_Unit x_20451)⟩)], 2⟩ (by kernel_rfl) (leB rfl) ?_
        refine w_seq (fun K hK_20705 => w_reg0 ?_)
        refine dd_run 0 6 rfl (by kernel_rfl) ?_
        refine ite_both h (fun h_20706 h => ?_) (fun h_20706 h => ?_)
        · refine dd_runG 6 11 5 true rfl (b := (x_20699.Base == x_20451.Base)) (by kernel_rfl) h_20706 (by kernel_rfl) ?_
          refine dd_one 11 (.pick (.tmp 76) (.tmp 81) (.const (.bool false))) (some 82) (by kernel_rfl) (o_pure (B (x_20699.Kind == x_20451.Kind)) (ev_pickT h_20706 (by kernel_rfl) (by kernel_rfl)) rfl) ?_
          refine dd_run 12 13 rfl (by kernel_rfl) ?_
          refine ite_both h (fun h_20707 h => ?_) (fun h_20707 h => ?_)
          · refine dd_runG 13 18 12 true rfl (b := (x_20699.Kind == x_20451.Kind)) (by kernel_rfl) h_20707 (by kernel_rfl) ?_
            refine ite_both h (fun h_20708 h => ?_) (fun h_20708 h => ?_)
            · refine dd_skip 18 23 17 false rfl (b := (x_20451.Base != a2)) (by kernel_rfl) h_20708 (by kernel_rfl) ?_
              refine dd_skipU 23 27 22 true rfl (by kernel_rfl) (by kernel_rfl) ?_
              refine dd_skip 27 28 17 false rfl (b := (x_20451.Base != a2)) (by kernel_rfl) h_20708 (by kernel_rfl) ?_
              refine dd_oneG 28 (.pick (.tmp 88) (.const (.bool true)) (.tmp 98)) (some 99) 12 true (b := (x_20699.Kind == x_20451.Kind)) (by kernel_rfl) (by kernel_rfl) h_20707 (o_pure (B true) (ev_pickT h_20708 (by kernel_rfl) (by kernel_rfl)) rfl) ?_
              refine dd_one 29 (.pick (.tmp 83) (.tmp 99) (.const (.bool false))) (some 100) (by kernel_rfl) (o_pure (B true) (ev_pickT h_20707 (by kernel_rfl) (by kernel_rfl)) rfl) ?_
              refine ops_fin' hK_20705 ⟨[(4, B true)], [(1, ⟨42, 0, (cs_Unit x_20699)⟩), (0, ⟨42, 0, (cs_Unit x_20451)⟩)], 2⟩ (by kernel_rfl) (leB rfl) ?_
              refine w_ret ?_
              obtain rfl := ((Option.some.inj h).symm).symm
              exact ret_leaf (.inl rfl) ⟨[(4, B true)], [], 0⟩ (to_ren [] (leB rfl) (by kernel_rfl) (by kernel_rfl) (renE_of (by kernel_rfl) (by kernel_rfl)) trivial) [B true] (by kernel_rfl) (by kernel_rfl) (leB rfl) (by kernel_rfl) trivial
            · refine dd_runG 18 23 17 false rfl (b := (x_20451.Base != a2)) (by kernel_rfl) h_20708 (by kernel_rfl) ?_
              refine ite_both h (fun h_20709 h => ?_) (fun h_20709 h => ?_)
              · refine dd_runG 23 27 22 true rfl (b := (x_20451.Factor.Num == 1)) (by kernel_rfl) h_20709 (by kernel_rfl) ?_
                refine dd_oneG 27 (.pick (.tmp 93) (.tmp 97) (.const (.bool false))) (some 98) 17 false (b := (x_20451.Base != a2)) (by kernel_rfl) (by kernel_rfl) h_20708 (o_pure (B (x_20451.Factor.Den == 1)) (ev_pickT h_20709 (by kernel_rfl) (by kernel_rfl)) rfl) ?_
                refine dd_oneG 28 (.pick (.tmp 88) (.const (.bool true)) (.tmp 98)) (some 99) 12 true (b := (x_20699.Kind == x_20451.Kind)) (by kernel_rfl) (by kernel_rfl) h_20707 (o_pure (B (x_20451.Factor.Den == 1)) (ev_pickF h_20708 (by kernel_rfl) (by kernel_rfl)) rfl) ?_
                refine dd_one 29 (.pick (.tmp 83) (.tmp 99) (.const (.bool false))) (some 100) (by kernel_rfl) (o_pure (B (x_20451.Factor.Den == 1)) (ev_pickT h_20707 (by kernel_rfl) (by kernel_rfl)) rfl) ?_
                refine ops_fin' hK_20705 ⟨[(4, B (x_20451.Factor.Den == 1))], [(1, ⟨42, 0, (cs_Unit x_20699)⟩), (0, ⟨42, 0, (cs_Unit x_20451)⟩)], 2⟩ (by kernel_rfl) (leB rfl) ?_
                refine w_ret ?_
                obtain rfl := ((Option.some.inj h).symm).symm
                exact ret_leaf (.inl rfl) ⟨[(4, B (x_20451.Factor.Den == 1))], [], 0⟩ (to_ren [] (leB rfl) (by kernel_rfl) (by kernel_rfl) (renE_of (by kernel_rfl) (by kernel_rfl)) trivial) [B (x_20451.Factor.Den == 1)] (by kernel_rfl) (by kernel_rfl) (leB rfl) (by kernel_rfl) trivial
              · refine dd_skip 23 27 22 true rfl (b := (x_20451.Factor.Num == 1)) (by kernel_rfl) h_20709 (by kernel_rfl) ?_
                refine dd_oneG 27 (.pick (.tmp 93) (.tmp 97) (.const (.bool false))) (some 98) 17 false (b := (x_20451.Base != a2)) (by kernel_rfl) (by kernel_rfl) h_20708 (o_pure (B false) (ev_pickF h_20709 (by kernel_rfl) (by kernel_rfl)) rfl) ?_
                refine dd_oneG 28 (.pick (.tmp 88) (.const (.bool true)) (.tmp 98)) (some 99) 12 true (b := (x_20699.Kind == x_20451.Kind)) (by kernel_rfl) (by kernel_rfl) h_20707 (o_pure (B false) (ev_pickF h_20708 (by kernel_rfl) (by kernel_rfl)) rfl) ?_
                refine dd_one 29 (.pick (.tmp 83) (.tmp 99) (.const (.bool false))) (some 100) (by kernel_rfl) (o_pure (B false) (ev_pickT h_20707 (by kernel_rfl) (by kernel_rfl)) rfl) ?_
                refine ops_fin' hK_20705 ⟨[(4, B false)], [(1, ⟨42, 0, (cs_Unit x_20699)⟩), (0, ⟨42, 0, (cs_Unit x_20451)⟩)], 2⟩ (by kernel_rfl) (leB rfl) ?_
                refine w_ret ?_
                obtain rfl := ((Option.some.inj h).symm).symm
                exact ret_leaf (.inl rfl) ⟨[(4, B false)], [], 0⟩ (to_ren [] (leB rfl) (by kernel_rfl) (by kernel_rfl) (renE_of (by kernel_rfl) (by kernel_rfl)) trivial) [B false] (by kernel_rfl) (by kernel_rfl) (leB rfl) (by kernel_rfl) trivial
          · refine dd_skip 13 18 12 true rfl (b := (x_20699.Kind == x_20451.Kind)) (by kernel_rfl) h_20707 (by kernel_rfl) ?_
            refine dd_skipU 18 23 17 false rfl (by kernel_rfl) (by kernel_rfl) ?_
            refine dd_skipU 23 27 22 true rfl (by kernel_rfl) (by kernel_rfl) ?_
            refine dd_skipU 27 28 17 false rfl (by kernel_rfl) (by kernel_rfl) ?_
            refine dd_skip 28 29 12 true rfl (b := (x_20699.Kind == x_20451.Kind)) (by kernel_rfl) h_20707 (by kernel_rfl) ?_
            refine dd_one 29 (.pick (.tmp 83) (.tmp 99) (.const (.bool false))) (some 100) (by kernel_rfl) (o_pure (B false) (ev_pickF h_20707 (by kernel_rfl) (by kernel_rfl)) rfl) ?_
            refine ops_fin' hK_20705 ⟨[(4, B false)], [(1, ⟨42, 0, (cs_Unit x_20699)⟩), (0, ⟨42, 0, (cs_Unit x_20451)⟩)], 2⟩ (by kernel_rfl) (leB rfl) ?_
            refine w_ret ?_
            obtain rfl := ((Option.some.inj h).symm).symm
            exact ret_leaf (.inl rfl) ⟨[(4, B false)], [], 0⟩ (to_ren [] (leB rfl) (by kernel_rfl) (by kernel_rfl) (renE_of (by kernel_rfl) (by kernel_rfl)) trivial) [B false] (by kernel_rfl) (by kernel_rfl) (leB rfl) (by kernel_rfl) trivial
        · refine dd_skip 6 11 5 true rfl (b := (x_20699.Base == x_20451.Base)) (by kernel_rfl) h_20706 (by kernel_rfl) ?_
          refine dd_one 11 (.pick (.tmp 76) (.tmp 81) (.const (.bool false))) (some 82) (by kernel_rfl) (o_pure (B false) (ev_pickF h_20706 (by kernel_rfl) (by kernel_rfl)) rfl) ?_
          refine dd_run 12 13 rfl (by kernel_rfl) ?_
          refine dd_skip 13 18 12 true rfl (b := false) (by kernel_rfl) rfl (by kernel_rfl) ?_
          refine dd_skipU 18 23 17 false rfl (by kernel_rfl) (by kernel_rfl) ?_
          refine dd_skipU 23 27 22 true rfl (by kernel_rfl) (by kernel_rfl) ?_
          refine dd_skipU 27 28 17 false rfl (by kernel_rfl) (by kernel_rfl) ?_
          refine dd_skip 28 29 12 true rfl (b := false) (by kernel_rfl) rfl (by kernel_rfl) ?_
          refine ops_fin' hK_20705 ⟨[(4, B false)], [(1, ⟨42, 0, (cs_Unit x_20699)⟩), (0, ⟨42, 0, (cs_Unit x_20451)⟩)], 2⟩ (by kernel_rfl) (leB rfl) ?_
          refine w_ret ?_
          obtain rfl := ((Option.some.inj h).symm).symm
          exact ret_leaf (.inl rfl) ⟨[(4, B false)], [], 0⟩ (to_ren [] (leB rfl) (by kernel_rfl) (by kernel_rfl) (renE_of (by kernel_rfl) (by kernel_rfl)) trivial) [B false] (by kernel_rfl) (by kernel_rfl) (leB rfl) (by kernel_rfl) trivial
/-- estoppel/estoppelref04.Valid -/
def g_estoppelref04_Valid (a1 : List D.Unit) : Option (Int × Bool) :=
  bindF (ρ := Unit) (
  loopO (σ := Int) (fun s_20911 =>
  if (decide (s_20911 < (a1.length : Int))) = true then
  (g_estoppelref04_right a1 s_20911).bind fun x_20928 =>
  if (!x_20928) = true then
  some (.inr (.inr (s_20911, false)))
  else
  some (.inl (IntKind.i64.wrap (s_20911 + 1)))
  else
  some (.inr (.inl ()))) 0) (fun (e_20872 : Unit) =>
  some ((-1), true))
set_option maxHeartbeats 4000000 in
theorem g_estoppelref04_Valid_ok {a1 : List D.Unit} {res : Int × Bool} (h : g_estoppelref04_Valid a1 = some res) : SpecK Tryd.prog [] 14 [sl 5 cs_Unit a1] [] 0 (.tup [I res.1, B res.2]) [] 0 := by
  refine ⟨spec_of_wp Tryd.func14 (by kernel_rfl) rfl Tryd.ntmps14 (by rw [Tryd.results14]) (leB rfl) ?_, by kernel_rfl, trivial, by kernel_rfl, trivial, by kernel_rfl⟩
  unfold g_estoppelref04_Valid at h
  refine w_reg ⟨[(0, sl 5 cs_Unit a1)], [], 0⟩ (by kernel_rfl) (leB rfl) ?_
  refine w_assoc ?_
  refine w_reg ⟨[(0, sl 5 cs_Unit a1), (4, I 0)], [], 0⟩ (by kernel_rfl) (leB rfl) ?_
  refine w_cut h (fun (e_20872 : Unit) => ⟨[], [], 0⟩) (fun o h h_20873 K hK_20874 => ?_) (fun e_20872 h => ?_)
  · refine w_block ?_
    refine w_loopO h (fun (s_20911 : Int) => ⟨[(0, sl 5 cs_Unit a1), (4, I s_20911)], [], 0⟩) (to_ren [] (leB rfl) (by kernel_rfl) (by kernel_rfl) (renE_of (by kernel_rfl) (by kernel_rfl)) trivial) (fun s_20911 o h h_20912 K hK_20913 => ?_)
    · refine w_assoc ?_
      refine w_seq (fun K hK_20914 => w_reg0 ?_)
      refine dd_run 0 2 rfl (by kernel_rfl) ?_
      refine dd_one 2 (.call ⟨.builtin .len, #[(.tmp 6)], #[22]⟩) (some 7) (by kernel_rfl) (o_pure (I (a1.length : Int)) (ev_len_sl (e := 42) (ty := 0) (k := 5) (c := cs_Unit) (by kernel_rfl) (by kernel_rfl)) rfl) ?_
      refine ops_fin' hK_20914 ⟨[(0, sl 5 cs_Unit a1), (4, I s_20911), (8, B (decide (s_20911 < (a1.length : Int))))], [], 0⟩ (by kernel_rfl) (leB rfl) ?_
      refine w_seq (fun K hK_20916 => ?_)
      refine w_ite h (by kernel_rfl) (fun h_20917 h => ?_) (fun h_20917 h => ?_)
      · refine w_skip ?_
        refine hK_20916 _ ⟨[(0, sl 5 cs_Unit a1), (4, I s_20911)], [], 0⟩ (to_trim (by kernel_rfl) (leB rfl)) ?_
        refine w_seq (fun K hK_20924 => ?_)
        refine w_block ?_
        refine w_seq (fun K hK_20927 => w_reg0 ?_)
        refine dd_run 0 2 rfl (by kernel_rfl) ?_
        obtain ⟨x_20928, h_20929, h⟩ := bind_some' h
        refine dd_one 2 (.call ⟨.value (.func 29), #[(.tmp 11), (.tmp 12)], #[22, 3]⟩) (some 13) (by kernel_rfl) (o_callP (g_estoppelref04_right_ok h_20929) (by kernel_rfl) rfl) ?_
        refine ops_fin' hK_20927 ⟨[(0, sl 5 cs_Unit a1), (4, I s_20911), (14, B (!x_20928))], [], 0⟩ (by kernel_rfl) (leB rfl) ?_
        refine w_ite h (by kernel_rfl) (fun h_20930 h => ?_) (fun h_20930 h => ?_)
        · refine w_reg ⟨[(2, I s_20911), (3, B false)], [], 0⟩ (by kernel_rfl) (leB rfl) ?_
          refine w_ret ?_
          obtain rfl := ((h_20873 _ (h_20912 _ (Option.some.inj h).symm).symm).symm).symm
          exact ret_leaf (.inl rfl) ⟨[(2, I s_20911), (3, B false)], [], 0⟩ (to_ren [] (leB rfl) (by kernel_rfl) (by kernel_rfl) (renE_of (by kernel_rfl) (by kernel_rfl)) trivial) [I s_20911, B false] (by kernel_rfl) (by kernel_rfl) (leB rfl) (by kernel_rfl) trivial
        · refine w_skip ?_
          refine hK_20924 _ ⟨[(0, sl 5 cs_Unit a1), (4, I s_20911)], [], 0⟩ (to_trim (by kernel_rfl) (leB rfl)) ?_
          refine w_reg0 ?_
          refine dd_run 0 3 rfl (by kernel_rfl) ?_
          refine dd_nil 3 rfl ?_
          exact hK_20913 _ _ (Option.some.inj h).symm (to_ren [] (leB rfl) (by kernel_rfl) (by kernel_rfl) (renE_of (by kernel_rfl) (by kernel_rfl)) trivial)
      · refine w_exit ?_
        exact hK_20874 _ _ (h_20912 _ (Option.some.inj h).symm).symm (to_ren [] (leB rfl) (by kernel_rfl) (by kernel_rfl) (renE_of (by kernel_rfl) (by kernel_rfl)) trivial)
  · refine w_reg ⟨[(2, I (-1)), (3, B true)], [], 0⟩ (by kernel_rfl) (leB rfl) ?_
    refine w_ret ?_
    obtain rfl := ((Option.some.inj h).symm).symm
    exact ret_leaf (.inl rfl) ⟨[(2, I (-1)), (3, B true)], [], 0⟩ (to_ren [] (leB rfl) (by kernel_rfl) (by kernel_rfl) (renE_of (by kernel_rfl) (by kernel_rfl)) trivial) [I (-1), B true] (by kernel_rfl) (by kernel_rfl) (leB rfl) (by kernel_rfl) trivial
/-- estoppel/estoppelref04.May -/
def g_estoppelref04_May (a1 : List D.Unit) (a2 : D.Amount) : Option (Bool) :=
  if (decide (a2.Unit ≥ 0)) = true then
  if (decide (a2.Unit < (a1.length : Int))) = true then
  (g_estoppelref01_Valid a2.Value).bind fun x_20953 =>
  some x_20953
  else
  some false
  else
  some false
set_option maxHeartbeats 4000000 in
theorem g_estoppelref04_May_ok {a1 : List D.Unit} {a2 : D.Amount} {res : Bool} (h : g_estoppelref04_May a1 a2 = some res) : SpecK Tryd.prog [] 36 [sl 5 cs_Unit a1, .agg (cs_Amount a2)] [] 0 (B res) [] 0 := by
  refine ⟨spec_of_wp Tryd.func36 (by kernel_rfl) rfl Tryd.ntmps36 (by rw [Tryd.results36]) (leB rfl) ?_, by kernel_rfl, trivial, by kernel_rfl, trivial, by kernel_rfl⟩
  unfold g_estoppelref04_May at h
  refine w_reg ⟨[(0, sl 5 cs_Unit a1), (3, .ip (cs_Amount a2))], [], 0⟩ (by kernel_rfl) (leB rfl) ?_
  refine w_seq (fun K hK_20950 => w_reg0 ?_)
  refine dd_run 0 4 rfl (by kernel_rfl) ?_
  refine ite_both h (fun h_20951 h => ?_) (fun h_20951 h => ?_)
  · refine dd_runG 4 7 3 true rfl (b := (decide (a2.Unit ≥ 0))) (by kernel_rfl) h_20951 (by kernel_rfl) ?_
    refine dd_oneG 7 (.call ⟨.builtin .len, #[(.tmp 11)], #[22]⟩) (some 12) 3 true (b := (decide (a2.Unit ≥ 0))) (by kernel_rfl) (by kernel_rfl) h_20951 (o_pure (I (a1.length : Int)) (ev_len_sl (e := 42) (ty := 0) (k := 5) (c := cs_Unit) (by kernel_rfl) (by kernel_rfl)) rfl) ?_
    refine dd_runG 8 9 3 true rfl (b := (decide (a2.Unit ≥ 0))) (by kernel_rfl) h_20951 (by kernel_rfl) ?_
    refine dd_one 9 (.pick (.tmp 8) (.tmp 13) (.const (.bool false))) (some 14) (by kernel_rfl) (o_pure (B (decide (a2.Unit < (a1.length : Int)))) (ev_pickT h_20951 (by kernel_rfl) (by kernel_rfl)) rfl) ?_
    refine dd_run 10 11 rfl (by kernel_rfl) ?_
    refine ite_both h (fun h_20952 h => ?_) (fun h_20952 h => ?_)
    · refine dd_runG 11 13 10 true rfl (b := (decide (a2.Unit < (a1.length : Int)))) (by kernel_rfl) h_20952 (by kernel_rfl) ?_
      obtain ⟨x_20953, h_20954, h⟩ := bind_some' h
      refine dd_oneG 13 (.call ⟨.value (.func 31), #[(.tmp 17)], #[31]⟩) (some 18) 10 true (b := (decide (a2.Unit < (a1.length : Int)))) (by kernel_rfl) (by kernel_rfl) h_20952 (o_callP (g_estoppelref01_Valid_ok h_20954) (by kernel_rfl) rfl) ?_
      refine dd_one 14 (.pick (.tmp 15) (.tmp 18) (.const (.bool false))) (some 19) (by kernel_rfl) (o_pure (B x_20953) (ev_pickT h_20952 (by kernel_rfl) (by kernel_rfl)) rfl) ?_
      refine ops_fin' hK_20950 ⟨[(4, B x_20953)], [], 0⟩ (by kernel_rfl) (leB rfl) ?_
      refine w_ret ?_
      obtain rfl := ((Option.some.inj h).symm).symm
      exact ret_leaf (.inl rfl) ⟨[(4, B x_20953)], [], 0⟩ (to_ren [] (leB rfl) (by kernel_rfl) (by kernel_rfl) (renE_of (by kernel_rfl) (by kernel_rfl)) trivial) [B x_20953] (by kernel_rfl) (by kernel_rfl) (leB rfl) (by kernel_rfl) trivial
    · refine dd_skip 11 14 10 true rfl (b := (decide (a2.Unit < (a1.length : Int)))) (by kernel_rfl) h_20952 (by kernel_rfl) ?_
      refine dd_one 14 (.pick (.tmp 15) (.tmp 18) (.const (.bool false))) (some 19) (by kernel_rfl) (o_pure (B false) (ev_pickF h_20952 (by kernel_rfl) (by kernel_rfl)) rfl) ?_
      refine ops_fin' hK_20950 ⟨[(4, B false)], [], 0⟩ (by kernel_rfl) (leB rfl) ?_
      refine w_ret ?_
      obtain rfl := ((Option.some.inj h).symm).symm
      exact ret_leaf (.inl rfl) ⟨[(4, B false)], [], 0⟩ (to_ren [] (leB rfl) (by kernel_rfl) (by kernel_rfl) (renE_of (by kernel_rfl) (by kernel_rfl)) trivial) [B false] (by kernel_rfl) (by kernel_rfl) (leB rfl) (by kernel_rfl) trivial
  · refine dd_skip 4 9 3 true rfl (b := (decide (a2.Unit ≥ 0))) (by kernel_rfl) h_20951 (by kernel_rfl) ?_
    refine dd_one 9 (.pick (.tmp 8) (.tmp 13) (.const (.bool false))) (some 14) (by kernel_rfl) (o_pure (B false) (ev_pickF h_20951 (by kernel_rfl) (by kernel_rfl)) rfl) ?_
    refine dd_run 10 11 rfl (by kernel_rfl) ?_
    refine dd_skip 11 14 10 true rfl (b := false) (by kernel_rfl) rfl (by kernel_rfl) ?_
    refine ops_fin' hK_20950 ⟨[(4, B false)], [], 0⟩ (by kernel_rfl) (leB rfl) ?_
    refine w_ret ?_
    obtain rfl := ((Option.some.inj h).symm).symm
    exact ret_leaf (.inl rfl) ⟨[(4, B false)], [], 0⟩ (to_ren [] (leB rfl) (by kernel_rfl) (by kernel_rfl) (renE_of (by kernel_rfl) (by kernel_rfl)) trivial) [B false] (by kernel_rfl) (by kernel_rfl) (leB rfl) (by kernel_rfl) trivial
/-- estoppel/estoppelref04.size -/
def g_estoppelref04_size (a1 : Int) : Option (Int) :=
  if (decide (a1 < 0)) = true then
  some (IntKind.i64.wrap (0 - a1))
  else
  some a1
set_option maxHeartbeats 4000000 in
theorem g_estoppelref04_size_ok {a1 : Int} {res : Int} (h : g_estoppelref04_size a1 = some res) : SpecK Tryd.prog [] 53 [I a1] [] 0 (I res) [] 0 := by
  refine ⟨spec_of_wp Tryd.func53 (by kernel_rfl) rfl Tryd.ntmps53 (by rw [Tryd.results53]) (leB rfl) ?_, by kernel_rfl, trivial, by kernel_rfl, trivial, by kernel_rfl⟩
  unfold g_estoppelref04_size at h
  refine w_reg ⟨[(0, I a1)], [], 0⟩ (by kernel_rfl) (leB rfl) ?_
  refine w_assoc ?_
  refine w_reg ⟨[(0, I a1), (4, B (decide (a1 < 0)))], [], 0⟩ (by kernel_rfl) (leB rfl) ?_
  refine w_seq (fun K hK_21050 => ?_)
  refine w_ite h (by kernel_rfl) (fun h_21051 h => ?_) (fun h_21051 h => ?_)
  · refine w_reg ⟨[(2, I (IntKind.i64.wrap (0 - a1)))], [], 0⟩ (by kernel_rfl) (leB rfl) ?_
    refine w_ret ?_
    obtain rfl := ((Option.some.inj h).symm).symm
    exact ret_leaf (.inl rfl) ⟨[(2, I (IntKind.i64.wrap (0 - a1)))], [], 0⟩ (to_ren [] (leB rfl) (by kernel_rfl) (by kernel_rfl) (renE_of (by kernel_rfl) (by kernel_rfl)) trivial) [I (IntKind.i64.wrap (0 - a1))] (by kernel_rfl) (by kernel_rfl) (leB rfl) (by kernel_rfl) trivial
  · refine w_skip ?_
    refine hK_21050 _ ⟨[(0, I a1)], [], 0⟩ (to_trim (by kernel_rfl) (leB rfl)) ?_
    refine w_reg ⟨[(2, I a1)], [], 0⟩ (by kernel_rfl) (leB rfl) ?_
    refine w_ret ?_
    obtain rfl := ((Option.some.inj h).symm).symm
    exact ret_leaf (.inl rfl) ⟨[(2, I a1)], [], 0⟩ (to_ren [] (leB rfl) (by kernel_rfl) (by kernel_rfl) (renE_of (by kernel_rfl) (by kernel_rfl)) trivial) [I a1] (by kernel_rfl) (by kernel_rfl) (leB rfl) (by kernel_rfl) trivial
end Go.Proofs.YtdfokoapenhalaaDoor.Ab
