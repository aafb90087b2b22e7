/- Functions of the program as plain functions (printed by wip/dec.py). -/
import Derived.Test.YtdfokoapenhalaaDoorDq1
import Derived.Test.YtdfokoapenhalaaDoorDq3
namespace Go.Proofs.YtdfokoapenhalaaDoor.Ab
open Go Go.RowKit Go.Shelf
/-- (estoppel/quantity.table).fits -/
def g_estoppel_quantity_table_fits_o (a1 : List D.Unit) (a2 : Int) (a3 : List (ByteArray × Bool)) : Option (Bool) :=
  (getI a1 a2).bind fun x_12451 =>
  (g_estoppel_quantity_table_at a1 x_12451.Base).bind fun x_12456 =>
  bindF (ρ := Bool) (
  if (!x_12456.2) = true then
  some (.inl true)
  else
  if (decide (a2 ≥ 20)) = true then
  some (.inl true)
  else
  if (x_12451.Name.toList == (ByteArray.mk #[]).toList) = true then
  some (.inl true)
  else
  if (getM a3 x_12451.Name false) = true then
  some (.inl true)
  else
  (g_ratio_Valid x_12451.Factor).bind fun x_12472 =>
  if (!x_12472) = true then
  some (.inl true)
  else
  some (.inl (decide (x_12451.Factor.Num ≤ 0)))) (fun (e_12465 : Bool) =>
  if e_12465 = true then
  some false
  else
  bindF (ρ := Bool) (
  if (x_12451.Base == a2) = true then
  some (.inl (decide (x_12451.Factor ≠ (D.Ratio.mk 1 1))))
  else
  some (.inl false)) (fun (e_12479 : Bool) =>
  if e_12479 = true then
  some false
  else
  if (x_12451.Kind == 1) = true then
  if (x_12456.1.Kind == x_12451.Kind) = true then
  some (x_12456.1.Base == x_12451.Base)
  else
  some false
  else
  if (x_12451.Kind == 2) = true then
  if (x_12456.1.Kind == x_12451.Kind) = true then
  some (x_12456.1.Base == x_12451.Base)
  else
  some false
  else
  some false))
set_option maxHeartbeats 4000000 in
theorem g_estoppel_quantity_table_fits_o_ok {a1 : List D.Unit} {a2 : Int} {a3 : List (ByteArray × Bool)} {res : Bool} (h : g_estoppel_quantity_table_fits_o a1 a2 a3 = some res) : SpecK Tryd.prog [0] 28 [sl 5 cs_Unit a1, I a2, .mp 0] [(0, ⟨54, 2, flat (cM cS cB) a3⟩)] 1 (B res) [(0, ⟨54, 2, flat (cM cS cB) a3⟩)] 1 := by
  refine ⟨spec_of_wp Tryd.func28 (by kernel_rfl) rfl Tryd.ntmps28 (by rw [Tryd.results28]) (leB rfl) ?_, by kernel_rfl, ⟨⟨leB rfl, flat_all (AV.keyed 0 4) (fun _ => rfl) _⟩, trivial⟩, by kernel_rfl, ⟨⟨leB rfl, flat_all (AV.keyed 0 4) (fun _ => rfl) _⟩, trivial⟩, by kernel_rfl⟩
  unfold g_estoppel_quantity_table_fits_o at h
  refine w_reg ⟨[(0, sl 5 cs_Unit a1), (1, I a2), (2, .mp 0)], [(0, ⟨54, 2, flat (cM cS cB) a3⟩)], 1⟩ (by kernel_rfl) (leB rfl) ?_
  refine w_seq (fun K hK_12448 => w_reg0 ?_)
  refine dd_run 0 2 rfl (by kernel_rfl) ?_
  obtain ⟨x_12451, h_12452, h⟩ := bind_some' h
  refine dd_one 2 (.indexAddr 55 (.tmp 10) (.tmp 11)) (some 12) (by kernel_rfl) (o_pure (.ip (cs_Unit x_12451)) (ev_idx_sl (e := 42) (k := 5) (c := cs_Unit) (ik := .i64) h_12452 (by kernel_rfl) (by kernel_rfl) (by kernel_rfl) (by kernel_rfl)) rfl) ?_
  refine ops_fin' hK_12448 ⟨[(0, sl 5 cs_Unit a1), (1, I a2), (2, .mp 0), (7, .ptr 1 0)], [(1, ⟨42, 0, (cs_Unit x_12451)⟩), (0, ⟨54, 2, flat (cM cS cB) a3⟩)], 2⟩ (by kernel_rfl) (leB rfl) ?_
  refine w_seq (fun K hK_12455 => w_reg0 ?_)
  refine dd_run 0 3 rfl (by kernel_rfl) ?_
  obtain ⟨x_12456, h_12457, h⟩ := bind_some' h
  refine dd_one 3 (.call ⟨.value (.func 33), #[(.tmp 15), (.tmp 17)], #[55, 3]⟩) (some 18) (by kernel_rfl) (o_callP (g_estoppel_quantity_table_at_ok h_12457) (by kernel_rfl) rfl) ?_
  refine ops_fin' hK_12455 ⟨[(1, I a2), (2, .mp 0), (7, .ptr 1 0), (8, .ptr 2 0), (9, B x_12456.2)], [(2, ⟨42, 0, (cs_Unit x_12456.1)⟩), (1, ⟨42, 0, (cs_Unit x_12451)⟩), (0, ⟨54, 2, flat (cM cS cB) a3⟩)], 3⟩ (by kernel_rfl) (leB rfl) ?_
  refine w_assoc ?_
  refine w_cut h (fun (e_12465 : Bool) => ⟨[(1, I a2), (7, .ptr 1 0), (8, .ptr 2 0), (49, B e_12465)], [(0, ⟨54, 2, flat (cM cS cB) a3⟩), (1, ⟨42, 0, (cs_Unit x_12451)⟩), (2, ⟨42, 0, (cs_Unit x_12456.1)⟩)], 3⟩) (fun o h h_12466 K hK_12467 => ?_) (fun e_12465 h => ?_)
  · refine w_reg0 ?_
    refine dd_run 0 3 rfl (by kernel_rfl) ?_
    refine ite_both h (fun h_12468 h => ?_) (fun h_12468 h => ?_)
    · refine dd_skip 3 5 2 false rfl (b := (!x_12456.2)) (by kernel_rfl) h_12468 (by kernel_rfl) ?_
      refine dd_one 5 (.pick (.tmp 23) (.const (.bool true)) (.tmp 25)) (some 26) (by kernel_rfl) (o_pure (B true) (ev_pickT h_12468 (by kernel_rfl) (by kernel_rfl)) rfl) ?_
      refine dd_run 6 7 rfl (by kernel_rfl) ?_
      refine dd_skip 7 10 6 false rfl (b := true) (by kernel_rfl) rfl (by kernel_rfl) ?_
      refine dd_run 10 12 rfl (by kernel_rfl) ?_
      refine dd_skip 12 16 11 false rfl (b := true) (by kernel_rfl) rfl (by kernel_rfl) ?_
      refine dd_run 16 18 rfl (by kernel_rfl) ?_
      refine dd_skip 18 22 17 false rfl (b := true) (by kernel_rfl) rfl (by kernel_rfl) ?_
      refine dd_run 22 24 rfl (by kernel_rfl) ?_
      refine dd_skip 24 28 23 false rfl (b := true) (by kernel_rfl) rfl (by kernel_rfl) ?_
      refine dd_run 28 29 rfl (by kernel_rfl) ?_
      refine dd_nil 29 rfl ?_
      exact hK_12467 _ _ (Option.some.inj h).symm (to_ren [] (leB rfl) (by kernel_rfl) (by kernel_rfl) (renE_of (by kernel_rfl) (by kernel_rfl)) ⟨rePl (by kernel_rfl) (leB rfl) (flat_all _ (fun _ => rfl) _), ⟨reRn (by kernel_rfl) (leB rfl) (by kernel_rfl), ⟨reRn (by kernel_rfl) (leB rfl) (by kernel_rfl), trivial⟩⟩⟩)
    · refine dd_runG 3 5 2 false rfl (b := (!x_12456.2)) (by kernel_rfl) h_12468 (by kernel_rfl) ?_
      refine dd_one 5 (.pick (.tmp 23) (.const (.bool true)) (.tmp 25)) (some 26) (by kernel_rfl) (o_pure (B (decide (a2 ≥ 20))) (ev_pickF h_12468 (by kernel_rfl) (by kernel_rfl)) rfl) ?_
      refine dd_run 6 7 rfl (by kernel_rfl) ?_
      refine ite_both h (fun h_12469 h => ?_) (fun h_12469 h => ?_)
      · refine dd_skip 7 10 6 false rfl (b := (decide (a2 ≥ 20))) (by kernel_rfl) h_12469 (by kernel_rfl) ?_
        refine dd_one 10 (.pick (.tmp 27) (.const (.bool true)) (.tmp 30)) (some 31) (by kernel_rfl) (o_pure (B true) (ev_pickT h_12469 (by kernel_rfl) (by kernel_rfl)) rfl) ?_
        refine dd_run 11 12 rfl (by kernel_rfl) ?_
        refine dd_skip 12 16 11 false rfl (b := true) (by kernel_rfl) rfl (by kernel_rfl) ?_
        refine dd_run 16 18 rfl (by kernel_rfl) ?_
        refine dd_skip 18 22 17 false rfl (b := true) (by kernel_rfl) rfl (by kernel_rfl) ?_
        refine dd_run 22 24 rfl (by kernel_rfl) ?_
        refine dd_skip 24 28 23 false rfl (b := true) (by kernel_rfl) rfl (by kernel_rfl) ?_
        refine dd_run 28 29 rfl (by kernel_rfl) ?_
        refine dd_nil 29 rfl ?_
        exact hK_12467 _ _ (Option.some.inj h).symm (to_ren [] (leB rfl) (by kernel_rfl) (by kernel_rfl) (renE_of (by kernel_rfl) (by kernel_rfl)) ⟨rePl (by kernel_rfl) (leB rfl) (flat_all _ (fun _ => rfl) _), ⟨reRn (by kernel_rfl) (leB rfl) (by kernel_rfl), ⟨reRn (by kernel_rfl) (leB rfl) (by kernel_rfl), trivial⟩⟩⟩)
      · refine dd_runG 7 10 6 false rfl (b := (decide (a2 ≥ 20))) (by kernel_rfl) h_12469 (by kernel_rfl) ?_
        refine dd_one 10 (.pick (.tmp 27) (.const (.bool true)) (.tmp 30)) (some 31) (by kernel_rfl) (o_pure (B (x_12451.Name.toList == (ByteArray.mk #[]).toList)) (ev_pickF h_12469 (by kernel_rfl) (by kernel_rfl)) rfl) ?_
        refine dd_run 11 12 rfl (by kernel_rfl) ?_
        refine ite_both h (fun h_12470 h => ?_) (fun h_12470 h => ?_)
        · refine dd_skip 12 16 11 false rfl (b := (x_12451.Name.toList == (ByteArray.mk #[]).toList)) (by kernel_rfl) h_12470 (by kernel_rfl) ?_
          refine dd_one 16 (.pick (.tmp 32) (.const (.bool true)) (.tmp 36)) (some 37) (by kernel_rfl) (o_pure (B true) (ev_pickT h_12470 (by kernel_rfl) (by kernel_rfl)) rfl) ?_
          refine dd_run 17 18 rfl (by kernel_rfl) ?_
          refine dd_skip 18 22 17 false rfl (b := true) (by kernel_rfl) rfl (by kernel_rfl) ?_
          refine dd_run 22 24 rfl (by kernel_rfl) ?_
          refine dd_skip 24 28 23 false rfl (b := true) (by kernel_rfl) rfl (by kernel_rfl) ?_
          refine dd_run 28 29 rfl (by kernel_rfl) ?_
          refine dd_nil 29 rfl ?_
          exact hK_12467 _ _ (Option.some.inj h).symm (to_ren [] (leB rfl) (by kernel_rfl) (by kernel_rfl) (renE_of (by kernel_rfl) (by kernel_rfl)) ⟨rePl (by kernel_rfl) (leB rfl) (flat_all _ (fun _ => rfl) _), ⟨reRn (by kernel_rfl) (leB rfl) (by kernel_rfl), ⟨reRn (by kernel_rfl) (leB rfl) (by kernel_rfl), trivial⟩⟩⟩)
        · refine dd_runG 12 15 11 false rfl (b := (x_12451.Name.toList == (ByteArray.mk #[]).toList)) (by kernel_rfl) h_12470 (by kernel_rfl) ?_
          refine dd_oneG 15 (.lookup 54 (.tmp 33) (.tmp 35) false) (some 36) 11 false (b := (x_12451.Name.toList == (ByteArray.mk #[]).toList)) (by kernel_rfl) (by kernel_rfl) h_12470 (o_pure (B (getM a3 x_12451.Name false)) (ev_look (b := 0) (ty := 54) (kt := 9) (et := 4) (d := .string) (kv := (fun n_ => .string n_)) (kc := cS) (c := cB) (f := fun x_ => B x_) (l := a3) (k := x_12451.Name) (z := false) (ok := false) same_str (fun _ => rfl) (fun _ => rfl) (by kernel_rfl) (by kernel_rfl) (by kernel_rfl) (by kernel_rfl) (by kernel_rfl) (by kernel_rfl) (by kernel_rfl)) rfl) ?_
          refine dd_one 16 (.pick (.tmp 32) (.const (.bool true)) (.tmp 36)) (some 37) (by kernel_rfl) (o_pure (B (getM a3 x_12451.Name false)) (ev_pickF h_12470 (by kernel_rfl) (by kernel_rfl)) rfl) ?_
          refine dd_run 17 18 rfl (by kernel_rfl) ?_
          refine ite_both h (fun h_12471 h => ?_) (fun h_12471 h => ?_)
          · refine dd_skip 18 22 17 false rfl (b := (getM a3 x_12451.Name false)) (by kernel_rfl) h_12471 (by kernel_rfl) ?_
            refine dd_one 22 (.pick (.tmp 38) (.const (.bool true)) (.tmp 42)) (some 43) (by kernel_rfl) (o_pure (B true) (ev_pickT h_12471 (by kernel_rfl) (by kernel_rfl)) rfl) ?_
            refine dd_run 23 24 rfl (by kernel_rfl) ?_
            refine dd_skip 24 28 23 false rfl (b := true) (by kernel_rfl) rfl (by kernel_rfl) ?_
            refine dd_run 28 29 rfl (by kernel_rfl) ?_
            refine dd_nil 29 rfl ?_
            exact hK_12467 _ _ (Option.some.inj h).symm (to_ren [] (leB rfl) (by kernel_rfl) (by kernel_rfl) (renE_of (by kernel_rfl) (by kernel_rfl)) ⟨rePl (by kernel_rfl) (leB rfl) (flat_all _ (fun _ => rfl) _), ⟨reRn (by kernel_rfl) (leB rfl) (by kernel_rfl), ⟨reRn (by kernel_rfl) (leB rfl) (by kernel_rfl), trivial⟩⟩⟩)
          · refine dd_runG 18 20 17 false rfl (b := (getM a3 x_12451.Name false)) (by kernel_rfl) h_12471 (by kernel_rfl) ?_
            obtain ⟨x_12472, h_12473, h⟩ := bind_some' h
            refine dd_oneG 20 (.call ⟨.value (.func 24), #[(.tmp 40)], #[31]⟩) (some 41) 17 false (b := (getM a3 x_12451.Name false)) (by kernel_rfl) (by kernel_rfl) h_12471 (o_callP (g_ratio_Valid_ok h_12473) (by kernel_rfl) rfl) ?_
            refine dd_runG 21 22 17 false rfl (b := (getM a3 x_12451.Name false)) (by kernel_rfl) h_12471 (by kernel_rfl) ?_
            refine dd_one 22 (.pick (.tmp 38) (.const (.bool true)) (.tmp 42)) (some 43) (by kernel_rfl) (o_pure (B (!x_12472)) (ev_pickF h_12471 (by kernel_rfl) (by kernel_rfl)) rfl) ?_
            refine dd_run 23 24 rfl (by kernel_rfl) ?_
            refine ite_both h (fun h_12474 h => ?_) (fun h_12474 h => ?_)
            · refine dd_skip 24 28 23 false rfl (b := (!x_12472)) (by kernel_rfl) h_12474 (by kernel_rfl) ?_
              refine dd_one 28 (.pick (.tmp 44) (.const (.bool true)) (.tmp 48)) (some 49) (by kernel_rfl) (o_pure (B true) (ev_pickT h_12474 (by kernel_rfl) (by kernel_rfl)) rfl) ?_
              refine dd_nil 29 rfl ?_
              exact hK_12467 _ _ (Option.some.inj h).symm (to_ren [] (leB rfl) (by kernel_rfl) (by kernel_rfl) (renE_of (by kernel_rfl) (by kernel_rfl)) ⟨rePl (by kernel_rfl) (leB rfl) (flat_all _ (fun _ => rfl) _), ⟨reRn (by kernel_rfl) (leB rfl) (by kernel_rfl), ⟨reRn (by kernel_rfl) (leB rfl) (by kernel_rfl), trivial⟩⟩⟩)
            · refine dd_runG 24 28 23 false rfl (b := (!x_12472)) (by kernel_rfl) h_12474 (by kernel_rfl) ?_
              refine dd_one 28 (.pick (.tmp 44) (.const (.bool true)) (.tmp 48)) (some 49) (by kernel_rfl) (o_pure (B (decide (x_12451.Factor.Num ≤ 0))) (ev_pickF h_12474 (by kernel_rfl) (by kernel_rfl)) rfl) ?_
              refine dd_nil 29 rfl ?_
              exact hK_12467 _ _ (Option.some.inj h).symm (to_ren [] (leB rfl) (by kernel_rfl) (by kernel_rfl) (renE_of (by kernel_rfl) (by kernel_rfl)) ⟨rePl (by kernel_rfl) (leB rfl) (flat_all _ (fun _ => rfl) _), ⟨reRn (by kernel_rfl) (leB rfl) (by kernel_rfl), ⟨reRn (by kernel_rfl) (leB rfl) (by kernel_rfl), trivial⟩⟩⟩)
  · refine w_seq (fun K hK_12476 => ?_)
    refine w_ite h (by kernel_rfl) (fun h_12477 h => ?_) (fun h_12477 h => ?_)
    · refine w_reg ⟨[(6, B false)], [(0, ⟨54, 2, flat (cM cS cB) a3⟩), (1, ⟨42, 0, (cs_Unit x_12451)⟩), (2, ⟨42, 0, (cs_Unit x_12456.1)⟩)], 3⟩ (by kernel_rfl) (leB rfl) ?_
      refine w_ret ?_
      obtain rfl := ((Option.some.inj h).symm).symm
      exact ret_leaf (.inl rfl) ⟨[(6, B false)], [(0, ⟨54, 2, flat (cM cS cB) a3⟩)], 1⟩ (to_ren [] (leB rfl) (by kernel_rfl) (by kernel_rfl) (renE_of (by kernel_rfl) (by kernel_rfl)) ⟨rePl (by kernel_rfl) (leB rfl) (flat_all _ (fun _ => rfl) _), trivial⟩) [B false] (by kernel_rfl) (by kernel_rfl) (leB rfl) (by kernel_rfl) ⟨⟨by kernel_rfl, leB rfl, (flat_all _ (fun _ => rfl) _)⟩, trivial⟩
    · refine w_skip ?_
      refine hK_12476 _ ⟨[(1, I a2), (7, .ptr 1 0), (8, .ptr 2 0)], [(0, ⟨54, 2, flat (cM cS cB) a3⟩), (1, ⟨42, 0, (cs_Unit x_12451)⟩), (2, ⟨42, 0, (cs_Unit x_12456.1)⟩)], 3⟩ (to_trim (by kernel_rfl) (leB rfl)) ?_
      refine w_assoc ?_
      refine w_cut h (fun (e_12479 : Bool) => ⟨[(7, .ptr 1 0), (8, .ptr 2 0), (59, B e_12479)], [(0, ⟨54, 2, flat (cM cS cB) a3⟩), (1, ⟨42, 0, (cs_Unit x_12451)⟩), (2, ⟨42, 0, (cs_Unit x_12456.1)⟩)], 3⟩) (fun o h h_12480 K hK_12481 => ?_) (fun e_12479 h => ?_)
      · refine w_reg0 ?_
        refine dd_run 0 5 rfl (by kernel_rfl) ?_
        refine ite_both h (fun h_12482 h => ?_) (fun h_12482 h => ?_)
        · refine dd_runG 5 8 4 true rfl (b := (x_12451.Base == a2)) (by kernel_rfl) h_12482 (by kernel_rfl) ?_
          refine dd_oneG 8 (.binOp .neq 31 (.tmp 56) (.tmp 57) 31) (some 58) 4 true (b := (x_12451.Base == a2)) (by kernel_rfl) (by kernel_rfl) h_12482 (o_cmp (x := .agg (cs_Ratio x_12451.Factor)) (y := .agg (cs_Ratio (D.Ratio.mk 1 1))) (decide (x_12451.Factor ≠ (D.Ratio.mk 1 1))) (by kernel_rfl) (by kernel_rfl) (by kernel_rfl) (neq_Ratio x_12451.Factor (D.Ratio.mk 1 1)) rfl) ?_
          refine dd_one 9 (.pick (.tmp 54) (.tmp 58) (.const (.bool false))) (some 59) (by kernel_rfl) (o_pure (B (decide (x_12451.Factor ≠ (D.Ratio.mk 1 1)))) (ev_pickT h_12482 (by kernel_rfl) (by kernel_rfl)) rfl) ?_
          refine dd_nil 10 rfl ?_
          exact hK_12481 _ _ (Option.some.inj h).symm (to_ren [] (leB rfl) (by kernel_rfl) (by kernel_rfl) (renE_of (by kernel_rfl) (by kernel_rfl)) ⟨rePl (by kernel_rfl) (leB rfl) (flat_all _ (fun _ => rfl) _), ⟨reRn (by kernel_rfl) (leB rfl) (by kernel_rfl), ⟨reRn (by kernel_rfl) (leB rfl) (by kernel_rfl), trivial⟩⟩⟩)
        · refine dd_skip 5 9 4 true rfl (b := (x_12451.Base == a2)) (by kernel_rfl) h_12482 (by kernel_rfl) ?_
          refine dd_one 9 (.pick (.tmp 54) (.tmp 58) (.const (.bool false))) (some 59) (by kernel_rfl) (o_pure (B false) (ev_pickF h_12482 (by kernel_rfl) (by kernel_rfl)) rfl) ?_
          refine dd_nil 10 rfl ?_
          exact hK_12481 _ _ (Option.some.inj h).symm (to_ren [] (leB rfl) (by kernel_rfl) (by kernel_rfl) (renE_of (by kernel_rfl) (by kernel_rfl)) ⟨rePl (by kernel_rfl) (leB rfl) (flat_all _ (fun _ => rfl) _), ⟨reRn (by kernel_rfl) (leB rfl) (by kernel_rfl), ⟨reRn (by kernel_rfl) (leB rfl) (by kernel_rfl), trivial⟩⟩⟩)
      · refine w_seq (fun K hK_12484 => ?_)
        refine w_ite h (by kernel_rfl) (fun h_12485 h => ?_) (fun h_12485 h => ?_)
        · refine w_reg ⟨[(6, B false)], [(0, ⟨54, 2, flat (cM cS cB) a3⟩), (1, ⟨42, 0, (cs_Unit x_12451)⟩), (2, ⟨42, 0, (cs_Unit x_12456.1)⟩)], 3⟩ (by kernel_rfl) (leB rfl) ?_
          refine w_ret ?_
          obtain rfl := ((Option.some.inj h).symm).symm
          exact ret_leaf (.inl rfl) ⟨[(6, B false)], [(0, ⟨54, 2, flat (cM cS cB) a3⟩)], 1⟩ (to_ren [] (leB rfl) (by kernel_rfl) (by kernel_rfl) (renE_of (by kernel_rfl) (by kernel_rfl)) ⟨rePl (by kernel_rfl) (leB rfl) (flat_all _ (fun _ => rfl) _), trivial⟩) [B false] (by kernel_rfl) (by kernel_rfl) (leB rfl) (by kernel_rfl) ⟨⟨by kernel_rfl, leB rfl, (flat_all _ (fun _ => rfl) _)⟩, trivial⟩
        · refine w_skip ?_
          refine hK_12484 _ ⟨[(7, .ptr 1 0), (8, .ptr 2 0)], [(0, ⟨54, 2, flat (cM cS cB) a3⟩), (1, ⟨42, 0, (cs_Unit x_12451)⟩), (2, ⟨42, 0, (cs_Unit x_12456.1)⟩)], 3⟩ (to_trim (by kernel_rfl) (leB rfl)) ?_
          refine w_seq (fun K hK_12490 => w_reg0 ?_)
          refine dd_run 0 4 rfl (by kernel_rfl) ?_
          refine ite_both h (fun h_12491 h => ?_) (fun h_12491 h => ?_)
          · refine dd_skip 4 7 3 false rfl (b := (x_12451.Kind == 1)) (by kernel_rfl) h_12491 (by kernel_rfl) ?_
            refine dd_one 7 (.pick (.tmp 63) (.const (.bool true)) (.tmp 66)) (some 67) (by kernel_rfl) (o_pure (B true) (ev_pickT h_12491 (by kernel_rfl) (by kernel_rfl)) rfl) ?_
            refine dd_run 8 9 rfl (by kernel_rfl) ?_
            refine dd_runG 9 14 8 true rfl (b := true) (by kernel_rfl) rfl (by kernel_rfl) ?_
            refine dd_run 14 16 rfl (by kernel_rfl) ?_
            refine ite_both h (fun h_12492 h => ?_) (fun h_12492 h => ?_)
            · refine dd_runG 16 21 15 true rfl (b := (x_12456.1.Kind == x_12451.Kind)) (by kernel_rfl) h_12492 (by kernel_rfl) ?_
              refine dd_one 21 (.pick (.tmp 75) (.tmp 80) (.const (.bool false))) (some 81) (by kernel_rfl) (o_pure (B (x_12456.1.Base == x_12451.Base)) (ev_pickT h_12492 (by kernel_rfl) (by kernel_rfl)) rfl) ?_
              refine ops_fin' hK_12490 ⟨[(6, B (x_12456.1.Base == x_12451.Base))], [(0, ⟨54, 2, flat (cM cS cB) a3⟩), (1, ⟨42, 0, (cs_Unit x_12451)⟩), (2, ⟨42, 0, (cs_Unit x_12456.1)⟩)], 3⟩ (by kernel_rfl) (leB rfl) ?_
              refine w_ret ?_
              obtain rfl := ((Option.some.inj h).symm).symm
              exact ret_leaf (.inl rfl) ⟨[(6, B (x_12456.1.Base == x_12451.Base))], [(0, ⟨54, 2, flat (cM cS cB) a3⟩)], 1⟩ (to_ren [] (leB rfl) (by kernel_rfl) (by kernel_rfl) (renE_of (by kernel_rfl) (by kernel_rfl)) ⟨rePl (by kernel_rfl) (leB rfl) (flat_all _ (fun _ => rfl) _), trivial⟩) [B (x_12456.1.Base == x_12451.Base)] (by kernel_rfl) (by kernel_rfl) (leB rfl) (by kernel_rfl) ⟨⟨by kernel_rfl, leB rfl, (flat_all _ (fun _ => rfl) _)⟩, trivial⟩
            · refine dd_skip 16 21 15 true rfl (b := (x_12456.1.Kind == x_12451.Kind)) (by kernel_rfl) h_12492 (by kernel_rfl) ?_
              refine dd_one 21 (.pick (.tmp 75) (.tmp 80) (.const (.bool false))) (some 81) (by kernel_rfl) (o_pure (B false) (ev_pickF h_12492 (by kernel_rfl) (by kernel_rfl)) rfl) ?_
              refine ops_fin' hK_12490 ⟨[(6, B false)], [(0, ⟨54, 2, flat (cM cS cB) a3⟩), (1, ⟨42, 0, (cs_Unit x_12451)⟩), (2, ⟨42, 0, (cs_Unit x_12456.1)⟩)], 3⟩ (by kernel_rfl) (leB rfl) ?_
              refine w_ret ?_
              obtain rfl := ((Option.some.inj h).symm).symm
              exact ret_leaf (.inl rfl) ⟨[(6, B false)], [(0, ⟨54, 2, flat (cM cS cB) a3⟩)], 1⟩ (to_ren [] (leB rfl) (by kernel_rfl) (by kernel_rfl) (renE_of (by kernel_rfl) (by kernel_rfl)) ⟨rePl (by kernel_rfl) (leB rfl) (flat_all _ (fun _ => rfl) _), trivial⟩) [B false] (by kernel_rfl) (by kernel_rfl) (leB rfl) (by kernel_rfl) ⟨⟨by kernel_rfl, leB rfl, (flat_all _ (fun _ => rfl) _)⟩, trivial⟩
          · refine dd_runG 4 7 3 false rfl (b := (x_12451.Kind == 1)) (by kernel_rfl) h_12491 (by kernel_rfl) ?_
            refine dd_one 7 (.pick (.tmp 63) (.const (.bool true)) (.tmp 66)) (some 67) (by kernel_rfl) (o_pure (B (x_12451.Kind == 2)) (ev_pickF h_12491 (by kernel_rfl) (by kernel_rfl)) rfl) ?_
            refine dd_run 8 9 rfl (by kernel_rfl) ?_
            refine ite_both h (fun h_12493 h => ?_) (fun h_12493 h => ?_)
            · refine dd_runG 9 14 8 true rfl (b := (x_12451.Kind == 2)) (by kernel_rfl) h_12493 (by kernel_rfl) ?_
              refine dd_one 14 (.pick (.tmp 68) (.tmp 73) (.const (.bool false))) (some 74) (by kernel_rfl) (o_pure (B (x_12456.1.Kind == x_12451.Kind)) (ev_pickT h_12493 (by kernel_rfl) (by kernel_rfl)) rfl) ?_
              refine dd_run 15 16 rfl (by kernel_rfl) ?_
              refine ite_both h (fun h_12494 h => ?_) (fun h_12494 h => ?_)
              · refine dd_runG 16 21 15 true rfl (b := (x_12456.1.Kind == x_12451.Kind)) (by kernel_rfl) h_12494 (by kernel_rfl) ?_
                refine dd_one 21 (.pick (.tmp 75) (.tmp 80) (.const (.bool false))) (some 81) (by kernel_rfl) (o_pure (B (x_12456.1.Base == x_12451.Base)) (ev_pickT h_12494 (by kernel_rfl) (by kernel_rfl)) rfl) ?_
                refine ops_fin' hK_12490 ⟨[(6, B (x_12456.1.Base == x_12451.Base))], [(0, ⟨54, 2, flat (cM cS cB) a3⟩), (1, ⟨42, 0, (cs_Unit x_12451)⟩), (2, ⟨42, 0, (cs_Unit x_12456.1)⟩)], 3⟩ (by kernel_rfl) (leB rfl) ?_
                refine w_ret ?_
                obtain rfl := ((Option.some.inj h).symm).symm
                exact ret_leaf (.inl rfl) ⟨[(6, B (x_12456.1.Base == x_12451.Base))], [(0, ⟨54, 2, flat (cM cS cB) a3⟩)], 1⟩ (to_ren [] (leB rfl) (by kernel_rfl) (by kernel_rfl) (renE_of (by kernel_rfl) (by kernel_rfl)) ⟨rePl (by kernel_rfl) (leB rfl) (flat_all _ (fun _ => rfl) _), trivial⟩) [B (x_12456.1.Base == x_12451.Base)] (by kernel_rfl) (by kernel_rfl) (leB rfl) (by kernel_rfl) ⟨⟨by kernel_rfl, leB rfl, (flat_all _ (fun _ => rfl) _)⟩, trivial⟩
              · refine dd_skip 16 21 15 true rfl (b := (x_12456.1.Kind == x_12451.Kind)) (by kernel_rfl) h_12494 (by kernel_rfl) ?_
                refine dd_one 21 (.pick (.tmp 75) (.tmp 80) (.const (.bool false))) (some 81) (by kernel_rfl) (o_pure (B false) (ev_pickF h_12494 (by kernel_rfl) (by kernel_rfl)) rfl) ?_
                refine ops_fin' hK_12490 ⟨[(6, B false)], [(0, ⟨54, 2, flat (cM cS cB) a3⟩), (1, ⟨42, 0, (cs_Unit x_12451)⟩), (2, ⟨42, 0, (cs_Unit x_12456.1)⟩)], 3⟩ (by kernel_rfl) (leB rfl) ?_
                refine w_ret ?_
                obtain rfl := ((Option.some.inj h).symm).symm
                exact ret_leaf (.inl rfl) ⟨[(6, B false)], [(0, ⟨54, 2, flat (cM cS cB) a3⟩)], 1⟩ (to_ren [] (leB rfl) (by kernel_rfl) (by kernel_rfl) (renE_of (by kernel_rfl) (by kernel_rfl)) ⟨rePl (by kernel_rfl) (leB rfl) (flat_all _ (fun _ => rfl) _), trivial⟩) [B false] (by kernel_rfl) (by kernel_rfl) (leB rfl) (by kernel_rfl) ⟨⟨by kernel_rfl, leB rfl, (flat_all _ (fun _ => rfl) _)⟩, trivial⟩
            · refine dd_skip 9 14 8 true rfl (b := (x_12451.Kind == 2)) (by kernel_rfl) h_12493 (by kernel_rfl) ?_
              refine dd_one 14 (.pick (.tmp 68) (.tmp 73) (.const (.bool false))) (some 74) (by kernel_rfl) (o_pure (B false) (ev_pickF h_12493 (by kernel_rfl) (by kernel_rfl)) rfl) ?_
              refine dd_run 15 16 rfl (by kernel_rfl) ?_
              refine dd_skip 16 21 15 true rfl (b := false) (by kernel_rfl) rfl (by kernel_rfl) ?_
              refine ops_fin' hK_12490 ⟨[(6, B false)], [(0, ⟨54, 2, flat (cM cS cB) a3⟩), (1, ⟨42, 0, (cs_Unit x_12451)⟩), (2, ⟨42, 0, (cs_Unit x_12456.1)⟩)], 3⟩ (by kernel_rfl) (leB rfl) ?_
              refine w_ret ?_
              obtain rfl := ((Option.some.inj h).symm).symm
              exact ret_leaf (.inl rfl) ⟨[(6, B false)], [(0, ⟨54, 2, flat (cM cS cB) a3⟩)], 1⟩ (to_ren [] (leB rfl) (by kernel_rfl) (by kernel_rfl) (renE_of (by kernel_rfl) (by kernel_rfl)) ⟨rePl (by kernel_rfl) (leB rfl) (flat_all _ (fun _ => rfl) _), trivial⟩) [B false] (by kernel_rfl) (by kernel_rfl) (leB rfl) (by kernel_rfl) ⟨⟨by kernel_rfl, leB rfl, (flat_all _ (fun _ => rfl) _)⟩, trivial⟩
/-- estoppel/quantity.Valid -/
def g_quantity_Valid (a1 : List D.Unit) : Option (Int × Bool) :=
  bindF (ρ := Unit) (
  loopO (σ := List (ByteArray × Bool) × Int) (fun s_12962 =>
  if (decide (s_12962.2 < (a1.length : Int))) = true then
  (getI a1 s_12962.2).bind fun x_12997 =>
  (g_estoppel_quantity_table_fits_o a1 s_12962.2 s_12962.1).bind fun x_13002 =>
  if (!x_13002) = true then
  some (.inr (.inr (s_12962.2, false)))
  else
  some (.inl ((putM s_12962.1 x_12997.Name true), (IntKind.i64.wrap (s_12962.2 + 1))))
  else
  some (.inr (.inl ()))) (([] : List (ByteArray × Bool)), 0)) (fun (e_12873 : Unit) =>
  some ((-1), true))
set_option maxHeartbeats 4000000 in
theorem g_quantity_Valid_ok {a1 : List D.Unit} {res : Int × Bool} (h : g_quantity_Valid a1 = some res) : SpecK Tryd.prog [] 13 [sl 5 cs_Unit a1] [] 0 (.tup [I res.1, B res.2]) [] 0 := by
  refine ⟨spec_of_wp Tryd.func13 (by kernel_rfl) rfl Tryd.ntmps13 (by rw [Tryd.results13]) (leB rfl) ?_, by kernel_rfl, trivial, by kernel_rfl, trivial, by kernel_rfl⟩
  unfold g_quantity_Valid at h
  refine w_reg ⟨[(0, sl 5 cs_Unit a1)], [], 0⟩ (by kernel_rfl) (leB rfl) ?_
  refine w_reg ⟨[(0, sl 5 cs_Unit a1), (4, .mp 0)], [(0, ⟨54, 2, flat (cM cS cB) ([] : List (ByteArray × Bool))⟩)], 1⟩ (by kernel_rfl) (leB rfl) ?_
  refine w_assoc ?_
  refine w_seq (fun K hK_12743 => w_reg0 ?_)
  refine dd_run 0 1 rfl (by kernel_rfl) ?_
  refine dd_one 1 (.call ⟨.builtin .len, #[(.tmp 8)], #[22]⟩) (some 9) (by kernel_rfl) (o_pure (I (a1.length : Int)) (ev_len_sl (e := 42) (ty := 0) (k := 5) (c := cs_Unit) (by kernel_rfl) (by kernel_rfl)) rfl) ?_
  refine ops_fin' hK_12743 ⟨[(0, sl 5 cs_Unit a1), (4, .mp 0), (8, sl 5 cs_Unit a1), (9, I (a1.length : Int)), (10, I 0)], [(0, ⟨54, 2, flat (cM cS cB) ([] : List (ByteArray × Bool))⟩)], 1⟩ (by kernel_rfl) (leB rfl) ?_
  refine w_cut h (fun (e_12873 : Unit) => ⟨[], [], 0⟩) (fun o h h_12874 K hK_12875 => ?_) (fun e_12873 h => ?_)
  · refine w_block ?_
    refine w_loopO h (fun (s_12962 : List (ByteArray × Bool) × Int) => ⟨[(0, sl 5 cs_Unit a1), (4, .mp 0), (8, sl 5 cs_Unit a1), (9, I (a1.length : Int)), (10, I s_12962.2)], [(0, ⟨54, 2, flat (cM cS cB) s_12962.1⟩)], 1⟩) (to_ren [] (leB rfl) (by kernel_rfl) (by kernel_rfl) (renE_of (by kernel_rfl) (by kernel_rfl)) ⟨rePl (by kernel_rfl) (leB rfl) (flat_all _ (fun _ => rfl) _), trivial⟩) (fun s_12962 o h h_12963 K hK_12964 => ?_)
    · refine w_reg ⟨[(0, sl 5 cs_Unit a1), (4, .mp 0), (8, sl 5 cs_Unit a1), (9, I (a1.length : Int)), (10, I s_12962.2), (11, B (decide (s_12962.2 < (a1.length : Int))))], [(0, ⟨54, 2, flat (cM cS cB) s_12962.1⟩)], 1⟩ (by kernel_rfl) (leB rfl) ?_
      refine w_seq (fun K hK_12966 => ?_)
      refine w_ite h (by kernel_rfl) (fun h_12967 h => ?_) (fun h_12967 h => ?_)
      · refine w_skip ?_
        refine hK_12966 _ ⟨[(0, sl 5 cs_Unit a1), (4, .mp 0), (8, sl 5 cs_Unit a1), (9, I (a1.length : Int)), (10, I s_12962.2)], [(0, ⟨54, 2, flat (cM cS cB) s_12962.1⟩)], 1⟩ (to_trim (by kernel_rfl) (leB rfl)) ?_
        refine w_seq (fun K hK_12987 => ?_)
        refine w_block ?_
        refine w_seq (fun K hK_12994 => w_reg0 ?_)
        refine dd_run 0 1 rfl (by kernel_rfl) ?_
        obtain ⟨x_12997, h_12998, h⟩ := bind_some' h
        refine dd_one 1 (.indexAddr 22 (.tmp 8) (.tmp 10)) (some 13) (by kernel_rfl) (o_pure (.ip (cs_Unit x_12997)) (ev_idx_sl (e := 42) (k := 5) (c := cs_Unit) (ik := .i64) h_12998 (by kernel_rfl) (by kernel_rfl) (by kernel_rfl) (by kernel_rfl)) rfl) ?_
        refine ops_fin' hK_12994 ⟨[(0, sl 5 cs_Unit a1), (4, .mp 0), (5, I s_12962.2), (6, .ptr 1 0), (8, sl 5 cs_Unit a1), (9, I (a1.length : Int)), (10, I s_12962.2)], [(1, ⟨42, 0, (cs_Unit x_12997)⟩), (0, ⟨54, 2, flat (cM cS cB) s_12962.1⟩)], 2⟩ (by kernel_rfl) (leB rfl) ?_
        refine w_assoc ?_
        refine w_seq (fun K hK_13001 => w_reg0 ?_)
        refine dd_run 0 3 rfl (by kernel_rfl) ?_
        obtain ⟨x_13002, h_13003, h⟩ := bind_some' h
        refine dd_one 3 (.call ⟨.value (.func 28), #[(.tmp 15), (.tmp 16), (.tmp 17)], #[55, 3, 54]⟩) (some 18) (by kernel_rfl) (o_callE [0] (g_estoppel_quantity_table_fits_o_ok h_13003) (by kernel_rfl) (by kernel_rfl) (by kernel_rfl) rfl) ?_
        refine ops_fin' hK_13001 ⟨[(0, sl 5 cs_Unit a1), (4, .mp 0), (5, I s_12962.2), (6, .ptr 1 0), (8, sl 5 cs_Unit a1), (9, I (a1.length : Int)), (10, I s_12962.2), (19, B (!x_13002))], [(0, ⟨54, 2, flat (cM cS cB) s_12962.1⟩), (1, ⟨42, 0, (cs_Unit x_12997)⟩)], 2⟩ (by kernel_rfl) (leB rfl) ?_
        refine w_seq (fun K hK_13005 => ?_)
        refine w_ite h (by kernel_rfl) (fun h_13006 h => ?_) (fun h_13006 h => ?_)
        · refine w_reg ⟨[(2, I s_12962.2), (3, B false)], [(0, ⟨54, 2, flat (cM cS cB) s_12962.1⟩), (1, ⟨42, 0, (cs_Unit x_12997)⟩)], 2⟩ (by kernel_rfl) (leB rfl) ?_
          refine w_ret ?_
          obtain rfl := ((h_12874 _ (h_12963 _ (Option.some.inj h).symm).symm).symm).symm
          exact ret_leaf (.inl rfl) ⟨[(2, I s_12962.2), (3, B false)], [], 0⟩ (to_ren [] (leB rfl) (by kernel_rfl) (by kernel_rfl) (renE_of (by kernel_rfl) (by kernel_rfl)) trivial) [I s_12962.2, B false] (by kernel_rfl) (by kernel_rfl) (leB rfl) (by kernel_rfl) trivial
        · refine w_skip ?_
          refine hK_13005 _ ⟨[(0, sl 5 cs_Unit a1), (4, .mp 0), (6, .ptr 1 0), (8, sl 5 cs_Unit a1), (9, I (a1.length : Int)), (10, I s_12962.2)], [(0, ⟨54, 2, flat (cM cS cB) s_12962.1⟩), (1, ⟨42, 0, (cs_Unit x_12997)⟩)], 2⟩ (to_trim (by kernel_rfl) (leB rfl)) ?_
          refine w_reg0 ?_
          refine dd_run 0 3 rfl (by kernel_rfl) ?_
          refine dd_one 3 (.mapUpdate 54 (.tmp 21) (.tmp 23) (.const (.bool true))) none (by kernel_rfl) (o_heap (U) [(0, ⟨54, 2, flat (cM cS cB) (putM s_12962.1 x_12997.Name true)⟩), (1, ⟨42, 0, (cs_Unit x_12997)⟩)] 2 (by kernel_rfl) (hv_mput (b := 0) (ty := 54) (kt := 9) (et := 4) (d := .string) (kv := (fun n_ => .string n_)) (kc := cS) (c := cB) (f := fun x_ => B x_) (l := s_12962.1) (k := x_12997.Name) (y := true) same_str (fun _ => rfl) (fun _ => rfl) (by kernel_rfl) (by kernel_rfl) (by kernel_rfl) (by kernel_rfl) (by kernel_rfl) (by kernel_rfl) (by kernel_rfl)) rfl) ?_
          refine dd_nil 4 rfl ?_
          refine hK_12987 _ ⟨[(0, sl 5 cs_Unit a1), (4, .mp 0), (8, sl 5 cs_Unit a1), (9, I (a1.length : Int)), (10, I s_12962.2)], [(0, ⟨54, 2, flat (cM cS cB) (putM s_12962.1 x_12997.Name true)⟩), (1, ⟨42, 0, (cs_Unit x_12997)⟩)], 2⟩ (to_trim (by kernel_rfl) (leB rfl)) ?_
          refine w_reg0 ?_
          refine dd_run 0 2 rfl (by kernel_rfl) ?_
          refine dd_nil 2 rfl ?_
          exact hK_12964 _ _ (Option.some.inj h).symm (to_ren [] (leB rfl) (by kernel_rfl) (by kernel_rfl) (renE_of (by kernel_rfl) (by kernel_rfl)) ⟨rePl (by kernel_rfl) (leB rfl) (flat_all _ (fun _ => rfl) _), trivial⟩)
      · refine w_exit ?_
        exact hK_12875 _ _ (h_12963 _ (Option.some.inj h).symm).symm (to_ren [] (leB rfl) (by kernel_rfl) (by kernel_rfl) (renE_of (by kernel_rfl) (by kernel_rfl)) trivial)
  · refine w_reg ⟨[(2, I (-1)), (3, B true)], [], 0⟩ (by kernel_rfl) (leB rfl) ?_
    refine w_ret ?_
    obtain rfl := ((Option.some.inj h).symm).symm
    exact ret_leaf (.inl rfl) ⟨[(2, I (-1)), (3, B true)], [], 0⟩ (to_ren [] (leB rfl) (by kernel_rfl) (by kernel_rfl) (renE_of (by kernel_rfl) (by kernel_rfl)) trivial) [I (-1), B true] (by kernel_rfl) (by kernel_rfl) (leB rfl) (by kernel_rfl) trivial
/-- (estoppel/quantity.table).has -/
def g_estoppel_quantity_table_has (a1 : List D.Unit) (a2 : D.Amount) : Option (Bool) :=
  (g_estoppel_quantity_table_at a1 a2.Unit).bind fun x_13034 =>
  if x_13034.2 = true then
  (g_ratio_Valid a2.Value).bind fun x_13041 =>
  some x_13041
  else
  some false
set_option maxHeartbeats 4000000 in
theorem g_estoppel_quantity_table_has_ok {a1 : List D.Unit} {a2 : D.Amount} {res : Bool} (h : g_estoppel_quantity_table_has a1 a2 = some res) : SpecK Tryd.prog [] 34 [sl 5 cs_Unit a1, .agg (cs_Amount a2)] [] 0 (B res) [] 0 := by
  refine ⟨spec_of_wp Tryd.func34 (by kernel_rfl) rfl Tryd.ntmps34 (by rw [Tryd.results34]) (leB rfl) ?_, by kernel_rfl, trivial, by kernel_rfl, trivial, by kernel_rfl⟩
  unfold g_estoppel_quantity_table_has at h
  refine w_reg ⟨[(0, sl 5 cs_Unit a1), (3, .ip (cs_Amount a2))], [], 0⟩ (by kernel_rfl) (leB rfl) ?_
  refine w_seq (fun K hK_13033 => w_reg0 ?_)
  refine dd_run 0 3 rfl (by kernel_rfl) ?_
  obtain ⟨x_13034, h_13035, h⟩ := bind_some' h
  refine dd_one 3 (.call ⟨.value (.func 33), #[(.tmp 8), (.tmp 10)], #[55, 3]⟩) (some 11) (by kernel_rfl) (o_callP (g_estoppel_quantity_table_at_ok h_13035) (by kernel_rfl) rfl) ?_
  refine ops_fin' hK_13033 ⟨[(3, .ip (cs_Amount a2)), (6, B x_13034.2)], [(0, ⟨42, 0, (cs_Unit x_13034.1)⟩)], 1⟩ (by kernel_rfl) (leB rfl) ?_
  refine w_seq (fun K hK_13039 => w_reg0 ?_)
  refine dd_run 0 2 rfl (by kernel_rfl) ?_
  refine ite_both h (fun h_13040 h => ?_) (fun h_13040 h => ?_)
  · refine dd_runG 2 4 1 true rfl (b := x_13034.2) (by kernel_rfl) h_13040 (by kernel_rfl) ?_
    obtain ⟨x_13041, h_13042, h⟩ := bind_some' h
    refine dd_oneG 4 (.call ⟨.value (.func 24), #[(.tmp 17)], #[31]⟩) (some 18) 1 true (b := x_13034.2) (by kernel_rfl) (by kernel_rfl) h_13040 (o_callP (g_ratio_Valid_ok h_13042) (by kernel_rfl) rfl) ?_
    refine dd_one 5 (.pick (.tmp 15) (.tmp 18) (.const (.bool false))) (some 19) (by kernel_rfl) (o_pure (B x_13041) (ev_pickT h_13040 (by kernel_rfl) (by kernel_rfl)) rfl) ?_
    refine ops_fin' hK_13039 ⟨[(4, B x_13041)], [(0, ⟨42, 0, (cs_Unit x_13034.1)⟩)], 1⟩ (by kernel_rfl) (leB rfl) ?_
    refine w_ret ?_
    obtain rfl := ((Option.some.inj h).symm).symm
    exact ret_leaf (.inl rfl) ⟨[(4, B x_13041)], [], 0⟩ (to_ren [] (leB rfl) (by kernel_rfl) (by kernel_rfl) (renE_of (by kernel_rfl) (by kernel_rfl)) trivial) [B x_13041] (by kernel_rfl) (by kernel_rfl) (leB rfl) (by kernel_rfl) trivial
  · refine dd_skip 2 5 1 true rfl (b := x_13034.2) (by kernel_rfl) h_13040 (by kernel_rfl) ?_
    refine dd_one 5 (.pick (.tmp 15) (.tmp 18) (.const (.bool false))) (some 19) (by kernel_rfl) (o_pure (B false) (ev_pickF h_13040 (by kernel_rfl) (by kernel_rfl)) rfl) ?_
    refine ops_fin' hK_13039 ⟨[(4, B false)], [(0, ⟨42, 0, (cs_Unit x_13034.1)⟩)], 1⟩ (by kernel_rfl) (leB rfl) ?_
    refine w_ret ?_
    obtain rfl := ((Option.some.inj h).symm).symm
    exact ret_leaf (.inl rfl) ⟨[(4, B false)], [], 0⟩ (to_ren [] (leB rfl) (by kernel_rfl) (by kernel_rfl) (renE_of (by kernel_rfl) (by kernel_rfl)) trivial) [B false] (by kernel_rfl) (by kernel_rfl) (leB rfl) (by kernel_rfl) trivial
/-- (estoppel/quantity.table).value -/
def g_estoppel_quantity_table_value (a1 : List D.Unit) (a2 : D.Amount) (a3 : Int) : Option (D.Ratio × Int) :=
  (getI a1 a2.Unit).bind fun x_13136 =>
  (getI a1 a3).bind fun x_13140 =>
  (g_quantity_exact a2.Value x_13136.Factor x_13140.Factor).bind fun x_13142 =>
  some (x_13142.1, x_13142.2)
set_option maxHeartbeats 4000000 in
theorem g_estoppel_quantity_table_value_ok {a1 : List D.Unit} {a2 : D.Amount} {a3 : Int} {res : D.Ratio × Int} (h : g_estoppel_quantity_table_value a1 a2 a3 = some res) : SpecK Tryd.prog [] 35 [sl 5 cs_Unit a1, .agg (cs_Amount a2), I a3] [] 0 (.tup [.agg (cs_Ratio res.1), I res.2]) [] 0 := by
  refine ⟨spec_of_wp Tryd.func35 (by kernel_rfl) rfl Tryd.ntmps35 (by rw [Tryd.results35]) (leB rfl) ?_, by kernel_rfl, trivial, by kernel_rfl, trivial, by kernel_rfl⟩
  unfold g_estoppel_quantity_table_value at h
  refine w_reg ⟨[(0, sl 5 cs_Unit a1), (2, I a3), (4, .ip (cs_Amount a2)), (6, .ptr 0 0)], [(0, ⟨31, 0, [I 0, I 0]⟩)], 1⟩ (by kernel_rfl) (leB rfl) ?_
  refine w_seq (fun K hK_13133 => w_mix0 (by kernel_rfl) (by kernel_rfl) ?_)
  refine mm_run 0 5 rfl (by kernel_rfl) ?_
  obtain ⟨x_13136, h_13137, h⟩ := bind_some' h
  refine mm_one 5 (.indexAddr 55 (.tmp 10) (.tmp 12)) (some 13) (by kernel_rfl) (by kernel_rfl) (oH_pure (.ip (cs_Unit x_13136)) (ev_idx_sl (e := 42) (k := 5) (c := cs_Unit) (ik := .i64) h_13137 (by kernel_rfl) (by kernel_rfl) (by kernel_rfl) (by kernel_rfl)) rfl) ?_
  refine mm_run 6 10 rfl (by kernel_rfl) ?_
  obtain ⟨x_13140, h_13141, h⟩ := bind_some' h
  refine mm_one 10 (.indexAddr 55 (.tmp 16) (.tmp 17)) (some 18) (by kernel_rfl) (by kernel_rfl) (oH_pure (.ip (cs_Unit x_13140)) (ev_idx_sl (e := 42) (k := 5) (c := cs_Unit) (ik := .i64) h_13141 (by kernel_rfl) (by kernel_rfl) (by kernel_rfl) (by kernel_rfl)) rfl) ?_
  refine mm_run 11 13 rfl (by kernel_rfl) ?_
  obtain ⟨x_13142, h_13143, h⟩ := bind_some' h
  refine mm_one 13 (.call ⟨.value (.func 52), #[(.tmp 9), (.tmp 15), (.tmp 20)], #[31, 31, 31]⟩) (some 21) (by kernel_rfl) (by kernel_rfl) (oH_callP (g_quantity_exact_ok h_13143) (by kernel_rfl) rfl) ?_
  refine mm_run 14 16 rfl (by kernel_rfl) ?_
  refine mm_ops 16 (.store 31 (.tmp 6) (.tmp 22)) none none (by kernel_rfl) (by kernel_rfl) ?_
  refine ops_fin' hK_13133 ⟨[(6, .ptr 0 0), (7, I x_13142.2)], [(0, ⟨31, 0, (cs_Ratio x_13142.1)⟩)], 1⟩ (by kernel_rfl) (leB rfl) ?_
  refine w_ret ?_
  obtain rfl := ((Option.some.inj h).symm).symm
  exact ret_leaf (.inl rfl) ⟨[(6, .ptr 0 0), (7, I x_13142.2)], [(0, ⟨31, 0, (cs_Ratio x_13142.1)⟩)], 1⟩ (to_ren [] (leB rfl) (by kernel_rfl) (by kernel_rfl) (renE_of (by kernel_rfl) (by kernel_rfl)) ⟨reRn (by kernel_rfl) (leB rfl) (by kernel_rfl), trivial⟩) [.agg (cs_Ratio x_13142.1), I x_13142.2] (by kernel_rfl) (by kernel_rfl) (leB rfl) (by kernel_rfl) trivial
end Go.Proofs.YtdfokoapenhalaaDoor.Ab
