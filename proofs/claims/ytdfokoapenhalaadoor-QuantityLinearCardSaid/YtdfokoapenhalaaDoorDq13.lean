/- Functions of the program as plain functions (printed by wip/dec.py). -/
import Derived.Test.YtdfokoapenhalaaDoorDq1
namespace Go.Proofs.YtdfokoapenhalaaDoor.Ab
open Go Go.RowKit Go.Shelf
/-- (estoppel/quantity.table).at -/
def g_estoppel_quantity_table_at_o (a1 : List D.Unit) (a2 : Int) : Option (D.Unit × Bool) :=
  bindF (ρ := Bool) (
  if (decide (a2 < 0)) = true then
  some (.inl true)
  else
  some (.inl (decide (a2 ≥ (a1.length : Int))))) (fun (e_39420 : Bool) =>
  if e_39420 = true then
  some ((D.Unit.mk ByteArray.empty 0 0 (D.Ratio.mk 0 0)), false)
  else
  (getI a1 a2).bind fun x_39436 =>
  some (x_39436, true))
set_option maxHeartbeats 4000000 in
theorem g_estoppel_quantity_table_at_o_ok {a1 : List D.Unit} {a2 : Int} {res : D.Unit × Bool} (h : g_estoppel_quantity_table_at_o a1 a2 = some res) : SpecK Tryd.prog [0] 33 [.own 0 a1.length, I a2] [(0, ⟨42, 5, flat cs_Unit a1⟩)] 1 (.tup [.agg (cs_Unit res.1), B res.2]) [(0, ⟨42, 5, flat cs_Unit a1⟩)] 1 := by
  refine ⟨spec_of_wp Tryd.func33 (by kernel_rfl) rfl Tryd.ntmps33 (by rw [Tryd.results33]) (leB rfl) ?_, by kernel_rfl, ⟨⟨leB rfl, flat_all (AV.keyed 0 4) (fun _ => rfl) _⟩, trivial⟩, by kernel_rfl, ⟨⟨leB rfl, flat_all (AV.keyed 0 4) (fun _ => rfl) _⟩, trivial⟩, by kernel_rfl⟩
  unfold g_estoppel_quantity_table_at_o at h
  refine w_reg ⟨[(0, .own 0 a1.length), (1, I a2), (4, .ptr 1 0)], [(1, ⟨42, 0, [Sr ByteArray.empty, I 0, I 0, I 0, I 0]⟩), (0, ⟨42, 5, flat cs_Unit a1⟩)], 2⟩ (by kernel_rfl) (leB rfl) ?_
  refine w_assoc ?_
  refine w_cut h (fun (e_39420 : Bool) => ⟨[(0, .own 0 a1.length), (1, I a2), (4, .ptr 1 0), (13, B e_39420)], [(0, ⟨42, 5, flat cs_Unit a1⟩), (1, ⟨42, 0, [Sr ByteArray.empty, I 0, I 0, I 0, I 0]⟩)], 2⟩) (fun o h h_39421 K hK_39422 => ?_) (fun e_39420 h => ?_)
  · refine w_reg0 ?_
    refine dd_run 0 3 rfl (by kernel_rfl) ?_
    refine ite_both h (fun h_39423 h => ?_) (fun h_39423 h => ?_)
    · refine dd_skip 3 7 2 false rfl (b := (decide (a2 < 0))) (by kernel_rfl) h_39423 (by kernel_rfl) ?_
      refine dd_one 7 (.pick (.tmp 8) (.const (.bool true)) (.tmp 12)) (some 13) (by kernel_rfl) (o_pure (B true) (ev_pickT h_39423 (by kernel_rfl) (by kernel_rfl)) rfl) ?_
      refine dd_nil 8 rfl ?_
      exact hK_39422 _ _ (Option.some.inj h).symm (to_ren [] (leB rfl) (by kernel_rfl) (by kernel_rfl) (renE_of (by kernel_rfl) (by kernel_rfl)) ⟨rePl (by kernel_rfl) (leB rfl) (flat_all _ (fun _ => rfl) _), ⟨reRn (by kernel_rfl) (leB rfl) (by kernel_rfl), trivial⟩⟩)
    · refine dd_runG 3 7 2 false rfl (b := (decide (a2 < 0))) (by kernel_rfl) h_39423 (by kernel_rfl) ?_
      refine dd_one 7 (.pick (.tmp 8) (.const (.bool true)) (.tmp 12)) (some 13) (by kernel_rfl) (o_pure (B (decide (a2 ≥ (a1.length : Int)))) (ev_pickF h_39423 (by kernel_rfl) (by kernel_rfl)) rfl) ?_
      refine dd_nil 8 rfl ?_
      exact hK_39422 _ _ (Option.some.inj h).symm (to_ren [] (leB rfl) (by kernel_rfl) (by kernel_rfl) (renE_of (by kernel_rfl) (by kernel_rfl)) ⟨rePl (by kernel_rfl) (leB rfl) (flat_all _ (fun _ => rfl) _), ⟨reRn (by kernel_rfl) (leB rfl) (by kernel_rfl), trivial⟩⟩)
  · refine w_seq (fun K hK_39425 => ?_)
    refine w_ite h (by kernel_rfl) (fun h_39426 h => ?_) (fun h_39426 h => ?_)
    · refine w_reg ⟨[(4, .ptr 1 0), (5, B false)], [(0, ⟨42, 5, flat cs_Unit a1⟩), (1, ⟨42, 0, [Sr ByteArray.empty, I 0, I 0, I 0, I 0]⟩)], 2⟩ (by kernel_rfl) (leB rfl) ?_
      refine w_ret ?_
      obtain rfl := ((Option.some.inj h).symm).symm
      exact ret_leaf (.inl rfl) ⟨[(4, .ptr 1 0), (5, B false)], [(0, ⟨42, 5, flat cs_Unit a1⟩), (1, ⟨42, 0, (cs_Unit (D.Unit.mk ByteArray.empty 0 0 (D.Ratio.mk 0 0)))⟩)], 2⟩ (to_ren [] (leB rfl) (by kernel_rfl) (by kernel_rfl) (renE_of (by kernel_rfl) (by kernel_rfl)) ⟨rePl (by kernel_rfl) (leB rfl) (flat_all _ (fun _ => rfl) _), ⟨reRn (by kernel_rfl) (leB rfl) (by kernel_rfl), trivial⟩⟩) [.agg (cs_Unit (D.Unit.mk ByteArray.empty 0 0 (D.Ratio.mk 0 0))), B false] (by kernel_rfl) (by kernel_rfl) (leB rfl) (by kernel_rfl) ⟨⟨by kernel_rfl, leB rfl, (flat_all _ (fun _ => rfl) _)⟩, trivial⟩
    · refine w_skip ?_
      refine hK_39425 _ ⟨[(0, .own 0 a1.length), (1, I a2), (4, .ptr 1 0)], [(0, ⟨42, 5, flat cs_Unit a1⟩), (1, ⟨42, 0, [Sr ByteArray.empty, I 0, I 0, I 0, I 0]⟩)], 2⟩ (to_trim (by kernel_rfl) (leB rfl)) ?_
      refine w_seq (fun K hK_39433 => w_reg0 ?_)
      refine dd_run 0 2 rfl (by kernel_rfl) ?_
      obtain ⟨x_39436, h_39437, h⟩ := bind_some' h
      refine dd_one 2 (.indexAddr 55 (.tmp 15) (.tmp 16)) (some 17) (by kernel_rfl) (o_pure (.ptr 0 (a2.toNat * 5)) (ev_idx_own (N := a1.length) (e := 42) (k := 5) (ik := .i64) h_39437 rfl (by kernel_rfl) (by kernel_rfl) (by kernel_rfl) (by kernel_rfl)) rfl) ?_
      refine dd_one 3 (.load 42 (.tmp 17)) (some 18) (by kernel_rfl) (o_pure (.agg (cs_Unit x_39436)) (ev_load_row (o := a2.toNat * 5) (b := 0) (i := a2.toNat) (j := 0) (k := 5) (c := cs_Unit) (sz := 5) (ty := 42) (fun _ => rfl) (getI_some h_39437).2 rfl (by kernel_rfl) (by kernel_rfl) (by kernel_rfl)) rfl) ?_
      refine ops_fin' hK_39433 ⟨[(4, .ptr 1 0), (5, B true)], [(0, ⟨42, 5, flat cs_Unit a1⟩), (1, ⟨42, 0, (cs_Unit x_39436)⟩)], 2⟩ (by kernel_rfl) (leB rfl) ?_
      refine w_ret ?_
      obtain rfl := ((Option.some.inj h).symm).symm
      exact ret_leaf (.inl rfl) ⟨[(4, .ptr 1 0), (5, B true)], [(0, ⟨42, 5, flat cs_Unit a1⟩), (1, ⟨42, 0, (cs_Unit x_39436)⟩)], 2⟩ (to_ren [] (leB rfl) (by kernel_rfl) (by kernel_rfl) (renE_of (by kernel_rfl) (by kernel_rfl)) ⟨rePl (by kernel_rfl) (leB rfl) (flat_all _ (fun _ => rfl) _), ⟨reRn (by kernel_rfl) (leB rfl) (by kernel_rfl), trivial⟩⟩) [.agg (cs_Unit x_39436), B true] (by kernel_rfl) (by kernel_rfl) (leB rfl) (by kernel_rfl) ⟨⟨by kernel_rfl, leB rfl, (flat_all _ (fun _ => rfl) _)⟩, trivial⟩
/-- (estoppel/quantity.table).fits -/
def g_estoppel_quantity_table_fits_o_o (a1 : List D.Unit) (a2 : Int) (a3 : List (ByteArray × Bool)) : Option (Bool) :=
  (getI a1 a2).bind fun x_39489 =>
  (g_estoppel_quantity_table_at_o a1 x_39489.Base).bind fun x_39494 =>
  bindF (ρ := Bool) (
  if (!x_39494.2) = true then
  some (.inl true)
  else
  if (decide (a2 ≥ 20)) = true then
  some (.inl true)
  else
  if (x_39489.Name.toList == (ByteArray.mk #[]).toList) = true then
  some (.inl true)
  else
  if (getM a3 x_39489.Name false) = true then
  some (.inl true)
  else
  (g_ratio_Valid x_39489.Factor).bind fun x_39510 =>
  if (!x_39510) = true then
  some (.inl true)
  else
  some (.inl (decide (x_39489.Factor.Num ≤ 0)))) (fun (e_39503 : Bool) =>
  if e_39503 = true then
  some false
  else
  bindF (ρ := Bool) (
  if (x_39489.Base == a2) = true then
  some (.inl (decide (x_39489.Factor ≠ (D.Ratio.mk 1 1))))
  else
  some (.inl false)) (fun (e_39517 : Bool) =>
  if e_39517 = true then
  some false
  else
  if (x_39489.Kind == 1) = true then
  if (x_39494.1.Kind == x_39489.Kind) = true then
  some (x_39494.1.Base == x_39489.Base)
  else
  some false
  else
  if (x_39489.Kind == 2) = true then
  if (x_39494.1.Kind == x_39489.Kind) = true then
  some (x_39494.1.Base == x_39489.Base)
  else
  some false
  else
  some false))
set_option maxHeartbeats 4000000 in
theorem g_estoppel_quantity_table_fits_o_o_ok {a1 : List D.Unit} {a2 : Int} {a3 : List (ByteArray × Bool)} {res : Bool} (h : g_estoppel_quantity_table_fits_o_o a1 a2 a3 = some res) : SpecK Tryd.prog [0, 1] 28 [.own 0 a1.length, I a2, .mp 1] [(0, ⟨42, 5, flat cs_Unit a1⟩), (1, ⟨54, 2, flat (cM cS cB) a3⟩)] 2 (B res) [(0, ⟨42, 5, flat cs_Unit a1⟩), (1, ⟨54, 2, flat (cM cS cB) a3⟩)] 2 := by
  refine ⟨spec_of_wp Tryd.func28 (by kernel_rfl) rfl Tryd.ntmps28 (by rw [Tryd.results28]) (leB rfl) ?_, by kernel_rfl, ⟨⟨leB rfl, flat_all (AV.keyed 0 4) (fun _ => rfl) _⟩, ⟨⟨leB rfl, flat_all (AV.keyed 0 4) (fun _ => rfl) _⟩, trivial⟩⟩, by kernel_rfl, ⟨⟨leB rfl, flat_all (AV.keyed 0 4) (fun _ => rfl) _⟩, ⟨⟨leB rfl, flat_all (AV.keyed 0 4) (fun _ => rfl) _⟩, trivial⟩⟩, by kernel_rfl⟩
  unfold g_estoppel_quantity_table_fits_o_o at h
  refine w_reg ⟨[(0, .own 0 a1.length), (1, I a2), (2, .mp 1)], [(0, ⟨42, 5, flat cs_Unit a1⟩), (1, ⟨54, 2, flat (cM cS cB) a3⟩)], 2⟩ (by kernel_rfl) (leB rfl) ?_
  refine w_seq (fun K hK_39486 => w_reg0 ?_)
  refine dd_run 0 2 rfl (by kernel_rfl) ?_
  obtain ⟨x_39489, h_39490, h⟩ := bind_some' h
  refine dd_one 2 (.indexAddr 55 (.tmp 10) (.tmp 11)) (some 12) (by kernel_rfl) (o_pure (.ptr 0 (a2.toNat * 5)) (ev_idx_own (N := a1.length) (e := 42) (k := 5) (ik := .i64) h_39490 rfl (by kernel_rfl) (by kernel_rfl) (by kernel_rfl) (by kernel_rfl)) rfl) ?_
  refine dd_one 3 (.load 42 (.tmp 12)) (some 13) (by kernel_rfl) (o_pure (.agg (cs_Unit x_39489)) (ev_load_row (o := a2.toNat * 5) (b := 0) (i := a2.toNat) (j := 0) (k := 5) (c := cs_Unit) (sz := 5) (ty := 42) (fun _ => rfl) (getI_some h_39490).2 rfl (by kernel_rfl) (by kernel_rfl) (by kernel_rfl)) rfl) ?_
  refine ops_fin' hK_39486 ⟨[(0, .own 0 a1.length), (1, I a2), (2, .mp 1), (7, .ptr 2 0)], [(2, ⟨42, 0, (cs_Unit x_39489)⟩), (0, ⟨42, 5, flat cs_Unit a1⟩), (1, ⟨54, 2, flat (cM cS cB) a3⟩)], 3⟩ (by kernel_rfl) (leB rfl) ?_
  refine w_seq (fun K hK_39493 => w_reg0 ?_)
  refine dd_run 0 3 rfl (by kernel_rfl) ?_
  obtain ⟨x_39494, h_39495, h⟩ := bind_some' h
  refine dd_one 3 (.call ⟨.value (.func 33), #[(.tmp 15), (.tmp 17)], #[55, 3]⟩) (some 18) (by kernel_rfl) (o_callE [0] (g_estoppel_quantity_table_at_o_ok h_39495) (by kernel_rfl) (by kernel_rfl) (by kernel_rfl) rfl) ?_
  refine ops_fin' hK_39493 ⟨[(1, I a2), (2, .mp 1), (7, .ptr 2 0), (8, .ptr 3 0), (9, B x_39494.2)], [(3, ⟨42, 0, (cs_Unit x_39494.1)⟩), (0, ⟨42, 5, flat cs_Unit a1⟩), (2, ⟨42, 0, (cs_Unit x_39489)⟩), (1, ⟨54, 2, flat (cM cS cB) a3⟩)], 4⟩ (by kernel_rfl) (leB rfl) ?_
  refine w_assoc ?_
  refine w_cut h (fun (e_39503 : Bool) => ⟨[(1, I a2), (7, .ptr 2 0), (8, .ptr 3 0), (49, B e_39503)], [(0, ⟨42, 5, flat cs_Unit a1⟩), (1, ⟨54, 2, flat (cM cS cB) a3⟩), (2, ⟨42, 0, (cs_Unit x_39489)⟩), (3, ⟨42, 0, (cs_Unit x_39494.1)⟩)], 4⟩) (fun o h h_39504 K hK_39505 => ?_) (fun e_39503 h => ?_)
  · refine w_reg0 ?_
    refine dd_run 0 3 rfl (by kernel_rfl) ?_
    refine ite_both h (fun h_39506 h => ?_) (fun h_39506 h => ?_)
    · refine dd_skip 3 5 2 false rfl (b := (!x_39494.2)) (by kernel_rfl) h_39506 (by kernel_rfl) ?_
      refine dd_one 5 (.pick (.tmp 23) (.const (.bool true)) (.tmp 25)) (some 26) (by kernel_rfl) (o_pure (B true) (ev_pickT h_39506 (by kernel_rfl) (by kernel_rfl)) rfl) ?_
      refine dd_run 6 7 rfl (by kernel_rfl) ?_
      refine dd_skip 7 10 6 false rfl (b := true) (by kernel_rfl) rfl (by kernel_rfl) ?_
      refine dd_run 10 12 rfl (by kernel_rfl) ?_
      refine dd_skip 12 16 11 false rfl (b := true) (by kernel_rfl) rfl (by kernel_rfl) ?_
      refine dd_run 16 18 rfl (by kernel_rfl) ?_
      refine dd_skip 18 22 17 false rfl (b := true) (by kernel_rfl) rfl (by kernel_rfl) ?_
      refine dd_run 22 24 rfl (by kernel_rfl) ?_
      refine dd_skip 24 28 23 false rfl (b := true) (by kernel_rfl) rfl (by kernel_rfl) ?_
      refine dd_run 28 29 rfl (by kernel_rfl) ?_
      refine dd_nil 29 rfl ?_
      exact hK_39505 _ _ (Option.some.inj h).symm (to_ren [] (leB rfl) (by kernel_rfl) (by kernel_rfl) (renE_of (by kernel_rfl) (by kernel_rfl)) ⟨rePl (by kernel_rfl) (leB rfl) (flat_all _ (fun _ => rfl) _), ⟨rePl (by kernel_rfl) (leB rfl) (flat_all _ (fun _ => rfl) _), ⟨reRn (by kernel_rfl) (leB rfl) (by kernel_rfl), ⟨reRn (by kernel_rfl) (leB rfl) (by kernel_rfl), trivial⟩⟩⟩⟩)
    · refine dd_runG 3 5 2 false rfl (b := (!x_39494.2)) (by kernel_rfl) h_39506 (by kernel_rfl) ?_
      refine dd_one 5 (.pick (.tmp 23) (.const (.bool true)) (.tmp 25)) (some 26) (by kernel_rfl) (o_pure (B (decide (a2 ≥ 20))) (ev_pickF h_39506 (by kernel_rfl) (by kernel_rfl)) rfl) ?_
      refine dd_run 6 7 rfl (by kernel_rfl) ?_
      refine ite_both h (fun h_39507 h => ?_) (fun h_39507 h => ?_)
      · refine dd_skip 7 10 6 false rfl (b := (decide (a2 ≥ 20))) (by kernel_rfl) h_39507 (by kernel_rfl) ?_
        refine dd_one 10 (.pick (.tmp 27) (.const (.bool true)) (.tmp 30)) (some 31) (by kernel_rfl) (o_pure (B true) (ev_pickT h_39507 (by kernel_rfl) (by kernel_rfl)) rfl) ?_
        refine dd_run 11 12 rfl (by kernel_rfl) ?_
        refine dd_skip 12 16 11 false rfl (b := true) (by kernel_rfl) rfl (by kernel_rfl) ?_
        refine dd_run 16 18 rfl (by kernel_rfl) ?_
        refine dd_skip 18 22 17 false rfl (b := true) (by kernel_rfl) rfl (by kernel_rfl) ?_
        refine dd_run 22 24 rfl (by kernel_rfl) ?_
        refine dd_skip 24 28 23 false rfl (b := true) (by kernel_rfl) rfl (by kernel_rfl) ?_
        refine dd_run 28 29 rfl (by kernel_rfl) ?_
        refine dd_nil 29 rfl ?_
        exact hK_39505 _ _ (Option.some.inj h).symm (to_ren [] (leB rfl) (by kernel_rfl) (by kernel_rfl) (renE_of (by kernel_rfl) (by kernel_rfl)) ⟨rePl (by kernel_rfl) (leB rfl) (flat_all _ (fun _ => rfl) _), ⟨rePl (by kernel_rfl) (leB rfl) (flat_all _ (fun _ => rfl) _), ⟨reRn (by kernel_rfl) (leB rfl) (by kernel_rfl), ⟨reRn (by kernel_rfl) (leB rfl) (by kernel_rfl), trivial⟩⟩⟩⟩)
      · refine dd_runG 7 10 6 false rfl (b := (decide (a2 ≥ 20))) (by kernel_rfl) h_39507 (by kernel_rfl) ?_
        refine dd_one 10 (.pick (.tmp 27) (.const (.bool true)) (.tmp 30)) (some 31) (by kernel_rfl) (o_pure (B (x_39489.Name.toList == (ByteArray.mk #[]).toList)) (ev_pickF h_39507 (by kernel_rfl) (by kernel_rfl)) rfl) ?_
        refine dd_run 11 12 rfl (by kernel_rfl) ?_
        refine ite_both h (fun h_39508 h => ?_) (fun h_39508 h => ?_)
        · refine dd_skip 12 16 11 false rfl (b := (x_39489.Name.toList == (ByteArray.mk #[]).toList)) (by kernel_rfl) h_39508 (by kernel_rfl) ?_
          refine dd_one 16 (.pick (.tmp 32) (.const (.bool true)) (.tmp 36)) (some 37) (by kernel_rfl) (o_pure (B true) (ev_pickT h_39508 (by kernel_rfl) (by kernel_rfl)) rfl) ?_
          refine dd_run 17 18 rfl (by kernel_rfl) ?_
          refine dd_skip 18 22 17 false rfl (b := true) (by kernel_rfl) rfl (by kernel_rfl) ?_
          refine dd_run 22 24 rfl (by kernel_rfl) ?_
          refine dd_skip 24 28 23 false rfl (b := true) (by kernel_rfl) rfl (by kernel_rfl) ?_
          refine dd_run 28 29 rfl (by kernel_rfl) ?_
          refine dd_nil 29 rfl ?_
          exact hK_39505 _ _ (Option.some.inj h).symm (to_ren [] (leB rfl) (by kernel_rfl) (by kernel_rfl) (renE_of (by kernel_rfl) (by kernel_rfl)) ⟨rePl (by kernel_rfl) (leB rfl) (flat_all _ (fun _ => rfl) _), ⟨rePl (by kernel_rfl) (leB rfl) (flat_all _ (fun _ => rfl) _), ⟨reRn (by kernel_rfl) (leB rfl) (by kernel_rfl), ⟨reRn (by kernel_rfl) (leB rfl) (by kernel_rfl), trivial⟩⟩⟩⟩)
        · refine dd_runG 12 15 11 false rfl (b := (x_39489.Name.toList == (ByteArray.mk #[]).toList)) (by kernel_rfl) h_39508 (by kernel_rfl) ?_
          refine dd_oneG 15 (.lookup 54 (.tmp 33) (.tmp 35) false) (some 36) 11 false (b := (x_39489.Name.toList == (ByteArray.mk #[]).toList)) (by kernel_rfl) (by kernel_rfl) h_39508 (o_pure (B (getM a3 x_39489.Name false)) (ev_look (b := 1) (ty := 54) (kt := 9) (et := 4) (d := .string) (kv := (fun n_ => .string n_)) (kc := cS) (c := cB) (f := fun x_ => B x_) (l := a3) (k := x_39489.Name) (z := false) (ok := false) same_str (fun _ => rfl) (fun _ => rfl) (by kernel_rfl) (by kernel_rfl) (by kernel_rfl) (by kernel_rfl) (by kernel_rfl) (by kernel_rfl) (by kernel_rfl)) rfl) ?_
          refine dd_one 16 (.pick (.tmp 32) (.const (.bool true)) (.tmp 36)) (some 37) (by kernel_rfl) (o_pure (B (getM a3 x_39489.Name false)) (ev_pickF h_39508 (by kernel_rfl) (by kernel_rfl)) rfl) ?_
          refine dd_run 17 18 rfl (by kernel_rfl) ?_
          refine ite_both h (fun h_39509 h => ?_) (fun h_39509 h => ?_)
          · refine dd_skip 18 22 17 false rfl (b := (getM a3 x_39489.Name false)) (by kernel_rfl) h_39509 (by kernel_rfl) ?_
            refine dd_one 22 (.pick (.tmp 38) (.const (.bool true)) (.tmp 42)) (some 43) (by kernel_rfl) (o_pure (B true) (ev_pickT h_39509 (by kernel_rfl) (by kernel_rfl)) rfl) ?_
            refine dd_run 23 24 rfl (by kernel_rfl) ?_
            refine dd_skip 24 28 23 false rfl (b := true) (by kernel_rfl) rfl (by kernel_rfl) ?_
            refine dd_run 28 29 rfl (by kernel_rfl) ?_
            refine dd_nil 29 rfl ?_
            exact hK_39505 _ _ (Option.some.inj h).symm (to_ren [] (leB rfl) (by kernel_rfl) (by kernel_rfl) (renE_of (by kernel_rfl) (by kernel_rfl)) ⟨rePl (by kernel_rfl) (leB rfl) (flat_all _ (fun _ => rfl) _), ⟨rePl (by kernel_rfl) (leB rfl) (flat_all _ (fun _ => rfl) _), ⟨reRn (by kernel_rfl) (leB rfl) (by kernel_rfl), ⟨reRn (by kernel_rfl) (leB rfl) (by kernel_rfl), trivial⟩⟩⟩⟩)
          · refine dd_runG 18 20 17 false rfl (b := (getM a3 x_39489.Name false)) (by kernel_rfl) h_39509 (by kernel_rfl) ?_
            obtain ⟨x_39510, h_39511, h⟩ := bind_some' h
            refine dd_oneG 20 (.call ⟨.value (.func 24), #[(.tmp 40)], #[31]⟩) (some 41) 17 false (b := (getM a3 x_39489.Name false)) (by kernel_rfl) (by kernel_rfl) h_39509 (o_callP (g_ratio_Valid_ok h_39511) (by kernel_rfl) rfl) ?_
            refine dd_runG 21 22 17 false rfl (b := (getM a3 x_39489.Name false)) (by kernel_rfl) h_39509 (by kernel_rfl) ?_
            refine dd_one 22 (.pick (.tmp 38) (.const (.bool true)) (.tmp 42)) (some 43) (by kernel_rfl) (o_pure (B (!x_39510)) (ev_pickF h_39509 (by kernel_rfl) (by kernel_rfl)) rfl) ?_
            refine dd_run 23 24 rfl (by kernel_rfl) ?_
            refine ite_both h (fun h_39512 h => ?_) (fun h_39512 h => ?_)
            · refine dd_skip 24 28 23 false rfl (b := (!x_39510)) (by kernel_rfl) h_39512 (by kernel_rfl) ?_
              refine dd_one 28 (.pick (.tmp 44) (.const (.bool true)) (.tmp 48)) (some 49) (by kernel_rfl) (o_pure (B true) (ev_pickT h_39512 (by kernel_rfl) (by kernel_rfl)) rfl) ?_
              refine dd_nil 29 rfl ?_
              exact hK_39505 _ _ (Option.some.inj h).symm (to_ren [] (leB rfl) (by kernel_rfl) (by kernel_rfl) (renE_of (by kernel_rfl) (by kernel_rfl)) ⟨rePl (by kernel_rfl) (leB rfl) (flat_all _ (fun _ => rfl) _), ⟨rePl (by kernel_rfl) (leB rfl) (flat_all _ (fun _ => rfl) _), ⟨reRn (by kernel_rfl) (leB rfl) (by kernel_rfl), ⟨reRn (by kernel_rfl) (leB rfl) (by kernel_rfl), trivial⟩⟩⟩⟩)
            · refine dd_runG 24 28 23 false rfl (b := (!x_39510)) (by kernel_rfl) h_39512 (by kernel_rfl) ?_
              refine dd_one 28 (.pick (.tmp 44) (.const (.bool true)) (.tmp 48)) (some 49) (by kernel_rfl) (o_pure (B (decide (x_39489.Factor.Num ≤ 0))) (ev_pickF h_39512 (by kernel_rfl) (by kernel_rfl)) rfl) ?_
              refine dd_nil 29 rfl ?_
              exact hK_39505 _ _ (Option.some.inj h).symm (to_ren [] (leB rfl) (by kernel_rfl) (by kernel_rfl) (renE_of (by kernel_rfl) (by kernel_rfl)) ⟨rePl (by kernel_rfl) (leB rfl) (flat_all _ (fun _ => rfl) _), ⟨rePl (by kernel_rfl) (leB rfl) (flat_all _ (fun _ => rfl) _), ⟨reRn (by kernel_rfl) (leB rfl) (by kernel_rfl), ⟨reRn (by kernel_rfl) (leB rfl) (by kernel_rfl), trivial⟩⟩⟩⟩)
  · refine w_seq (fun K hK_39514 => ?_)
    refine w_ite h (by kernel_rfl) (fun h_39515 h => ?_) (fun h_39515 h => ?_)
    · refine w_reg ⟨[(6, B false)], [(0, ⟨42, 5, flat cs_Unit a1⟩), (1, ⟨54, 2, flat (cM cS cB) a3⟩), (2, ⟨42, 0, (cs_Unit x_39489)⟩), (3, ⟨42, 0, (cs_Unit x_39494.1)⟩)], 4⟩ (by kernel_rfl) (leB rfl) ?_
      refine w_ret ?_
      obtain rfl := ((Option.some.inj h).symm).symm
      exact ret_leaf (.inl rfl) ⟨[(6, B false)], [(0, ⟨42, 5, flat cs_Unit a1⟩), (1, ⟨54, 2, flat (cM cS cB) a3⟩)], 2⟩ (to_ren [] (leB rfl) (by kernel_rfl) (by kernel_rfl) (renE_of (by kernel_rfl) (by kernel_rfl)) ⟨rePl (by kernel_rfl) (leB rfl) (flat_all _ (fun _ => rfl) _), ⟨rePl (by kernel_rfl) (leB rfl) (flat_all _ (fun _ => rfl) _), trivial⟩⟩) [B false] (by kernel_rfl) (by kernel_rfl) (leB rfl) (by kernel_rfl) ⟨⟨by kernel_rfl, leB rfl, (flat_all _ (fun _ => rfl) _)⟩, ⟨⟨by kernel_rfl, leB rfl, (flat_all _ (fun _ => rfl) _)⟩, trivial⟩⟩
    · refine w_skip ?_
      refine hK_39514 _ ⟨[(1, I a2), (7, .ptr 2 0), (8, .ptr 3 0)], [(0, ⟨42, 5, flat cs_Unit a1⟩), (1, ⟨54, 2, flat (cM cS cB) a3⟩), (2, ⟨42, 0, (cs_Unit x_39489)⟩), (3, ⟨42, 0, (cs_Unit x_39494.1)⟩)], 4⟩ (to_trim (by kernel_rfl) (leB rfl)) ?_
      refine w_assoc ?_
      refine w_cut h (fun (e_39517 : Bool) => ⟨[(7, .ptr 2 0), (8, .ptr 3 0), (59, B e_39517)], [(0, ⟨42, 5, flat cs_Unit a1⟩), (1, ⟨54, 2, flat (cM cS cB) a3⟩), (2, ⟨42, 0, (cs_Unit x_39489)⟩), (3, ⟨42, 0, (cs_Unit x_39494.1)⟩)], 4⟩) (fun o h h_39518 K hK_39519 => ?_) (fun e_39517 h => ?_)
      · refine w_reg0 ?_
        refine dd_run 0 5 rfl (by kernel_rfl) ?_
        refine ite_both h (fun h_39520 h => ?_) (fun h_39520 h => ?_)
        · refine dd_runG 5 8 4 true rfl (b := (x_39489.Base == a2)) (by kernel_rfl) h_39520 (by kernel_rfl) ?_
          refine dd_oneG 8 (.binOp .neq 31 (.tmp 56) (.tmp 57) 31) (some 58) 4 true (b := (x_39489.Base == a2)) (by kernel_rfl) (by kernel_rfl) h_39520 (o_cmp (x := .agg (cs_Ratio x_39489.Factor)) (y := .agg (cs_Ratio (D.Ratio.mk 1 1))) (decide (x_39489.Factor ≠ (D.Ratio.mk 1 1))) (by kernel_rfl) (by kernel_rfl) (by kernel_rfl) (neq_Ratio x_39489.Factor (D.Ratio.mk 1 1)) rfl) ?_
          refine dd_one 9 (.pick (.tmp 54) (.tmp 58) (.const (.bool false))) (some 59) (by kernel_rfl) (o_pure (B (decide (x_39489.Factor ≠ (D.Ratio.mk 1 1)))) (ev_pickT h_39520 (by kernel_rfl) (by kernel_rfl)) rfl) ?_
          refine dd_nil 10 rfl ?_
          exact hK_39519 _ _ (Option.some.inj h).symm (to_ren [] (leB rfl) (by kernel_rfl) (by kernel_rfl) (renE_of (by kernel_rfl) (by kernel_rfl)) ⟨rePl (by kernel_rfl) (leB rfl) (flat_all _ (fun _ => rfl) _), ⟨rePl (by kernel_rfl) (leB rfl) (flat_all _ (fun _ => rfl) _), ⟨reRn (by kernel_rfl) (leB rfl) (by kernel_rfl), ⟨reRn (by kernel_rfl) (leB rfl) (by kernel_rfl), trivial⟩⟩⟩⟩)
        · refine dd_skip 5 9 4 true rfl (b := (x_39489.Base == a2)) (by kernel_rfl) h_39520 (by kernel_rfl) ?_
          refine dd_one 9 (.pick (.tmp 54) (.tmp 58) (.const (.bool false))) (some 59) (by kernel_rfl) (o_pure (B false) (ev_pickF h_39520 (by kernel_rfl) (by kernel_rfl)) rfl) ?_
          refine dd_nil 10 rfl ?_
          exact hK_39519 _ _ (Option.some.inj h).symm (to_ren [] (leB rfl) (by kernel_rfl) (by kernel_rfl) (renE_of (by kernel_rfl) (by kernel_rfl)) ⟨rePl (by kernel_rfl) (leB rfl) (flat_all _ (fun _ => rfl) _), ⟨rePl (by kernel_rfl) (leB rfl) (flat_all _ (fun _ => rfl) _), ⟨reRn (by kernel_rfl) (leB rfl) (by kernel_rfl), ⟨reRn (by kernel_rfl) (leB rfl) (by kernel_rfl), trivial⟩⟩⟩⟩)
      · refine w_seq (fun K hK_39522 => ?_)
        refine w_ite h (by kernel_rfl) (fun h_39523 h => ?_) (fun h_39523 h => ?_)
        · refine w_reg ⟨[(6, B false)], [(0, ⟨42, 5, flat cs_Unit a1⟩), (1, ⟨54, 2, flat (cM cS cB) a3⟩), (2, ⟨42, 0, (cs_Unit x_39489)⟩), (3, ⟨42, 0, (cs_Unit x_39494.1)⟩)], 4⟩ (by kernel_rfl) (leB rfl) ?_
          refine w_ret ?_
          obtain rfl := ((Option.some.inj h).symm).symm
          exact ret_leaf (.inl rfl) ⟨[(6, B false)], [(0, ⟨42, 5, flat cs_Unit a1⟩), (1, ⟨54, 2, flat (cM cS cB) a3⟩)], 2⟩ (to_ren [] (leB rfl) (by kernel_rfl) (by kernel_rfl) (renE_of (by kernel_rfl) (by kernel_rfl)) ⟨rePl (by kernel_rfl) (leB rfl) (flat_all _ (fun _ => rfl) _), ⟨rePl (by kernel_rfl) (leB rfl) (flat_all _ (fun _ => rfl) _), trivial⟩⟩) [B false] (by kernel_rfl) (by kernel_rfl) (leB rfl) (by kernel_rfl) ⟨⟨by kernel_rfl, leB rfl, (flat_all _ (fun _ => rfl) _)⟩, ⟨⟨by kernel_rfl, leB rfl, (flat_all _ (fun _ => rfl) _)⟩, trivial⟩⟩
        · refine w_skip ?_
          refine hK_39522 _ ⟨[(7, .ptr 2 0), (8, .ptr 3 0)], [(0, ⟨42, 5, flat cs_Unit a1⟩), (1, ⟨54, 2, flat (cM cS cB) a3⟩), (2, ⟨42, 0, (cs_Unit x_39489)⟩), (3, ⟨42, 0, (cs_Unit x_39494.1)⟩)], 4⟩ (to_trim (by kernel_rfl) (leB rfl)) ?_
          refine w_seq (fun K hK_39528 => w_reg0 ?_)
          refine dd_run 0 4 rfl (by kernel_rfl) ?_
          refine ite_both h (fun h_39529 h => ?_) (fun h_39529 h => ?_)
          · refine dd_skip 4 7 3 false rfl (b := (x_39489.Kind == 1)) (by kernel_rfl) h_39529 (by kernel_rfl) ?_
            refine dd_one 7 (.pick (.tmp 63) (.const (.bool true)) (.tmp 66)) (some 67) (by kernel_rfl) (o_pure (B true) (ev_pickT h_39529 (by kernel_rfl) (by kernel_rfl)) rfl) ?_
            refine dd_run 8 9 rfl (by kernel_rfl) ?_
            refine dd_runG 9 14 8 true rfl (b := true) (by kernel_rfl) rfl (by kernel_rfl) ?_
            refine dd_run 14 16 rfl (by kernel_rfl) ?_
            refine ite_both h (fun h_39530 h => ?_) (fun h_39530 h => ?_)
            · refine dd_runG 16 21 15 true rfl (b := (x_39494.1.Kind == x_39489.Kind)) (by kernel_rfl) h_39530 (by kernel_rfl) ?_
              refine dd_one 21 (.pick (.tmp 75) (.tmp 80) (.const (.bool false))) (some 81) (by kernel_rfl) (o_pure (B (x_39494.1.Base == x_39489.Base)) (ev_pickT h_39530 (by kernel_rfl) (by kernel_rfl)) rfl) ?_
              refine ops_fin' hK_39528 ⟨[(6, B (x_39494.1.Base == x_39489.Base))], [(0, ⟨42, 5, flat cs_Unit a1⟩), (1, ⟨54, 2, flat (cM cS cB) a3⟩), (2, ⟨42, 0, (cs_Unit x_39489)⟩), (3, ⟨42, 0, (cs_Unit x_39494.1)⟩)], 4⟩ (by kernel_rfl) (leB rfl) ?_
              refine w_ret ?_
              obtain rfl := ((Option.some.inj h).symm).symm
              exact ret_leaf (.inl rfl) ⟨[(6, B (x_39494.1.Base == x_39489.Base))], [(0, ⟨42, 5, flat cs_Unit a1⟩), (1, ⟨54, 2, flat (cM cS cB) a3⟩)], 2⟩ (to_ren [] (leB rfl) (by kernel_rfl) (by kernel_rfl) (renE_of (by kernel_rfl) (by kernel_rfl)) ⟨rePl (by kernel_rfl) (leB rfl) (flat_all _ (fun _ => rfl) _), ⟨rePl (by kernel_rfl) (leB rfl) (flat_all _ (fun _ => rfl) _), trivial⟩⟩) [B (x_39494.1.Base == x_39489.Base)] (by kernel_rfl) (by kernel_rfl) (leB rfl) (by kernel_rfl) ⟨⟨by kernel_rfl, leB rfl, (flat_all _ (fun _ => rfl) _)⟩, ⟨⟨by kernel_rfl, leB rfl, (flat_all _ (fun _ => rfl) _)⟩, trivial⟩⟩
            · refine dd_skip 16 21 15 true rfl (b := (x_39494.1.Kind == x_39489.Kind)) (by kernel_rfl) h_39530 (by kernel_rfl) ?_
              refine dd_one 21 (.pick (.tmp 75) (.tmp 80) (.const (.bool false))) (some 81) (by kernel_rfl) (o_pure (B false) (ev_pickF h_39530 (by kernel_rfl) (by kernel_rfl)) rfl) ?_
              refine ops_fin' hK_39528 ⟨[(6, B false)], [(0, ⟨42, 5, flat cs_Unit a1⟩), (1, ⟨54, 2, flat (cM cS cB) a3⟩), (2, ⟨42, 0, (cs_Unit x_39489)⟩), (3, ⟨42, 0, (cs_Unit x_39494.1)⟩)], 4⟩ (by kernel_rfl) (leB rfl) ?_
              refine w_ret ?_
              obtain rfl := ((Option.some.inj h).symm).symm
              exact ret_leaf (.inl rfl) ⟨[(6, B false)], [(0, ⟨42, 5, flat cs_Unit a1⟩), (1, ⟨54, 2, flat (cM cS cB) a3⟩)], 2⟩ (to_ren [] (leB rfl) (by kernel_rfl) (by kernel_rfl) (renE_of (by kernel_rfl) (by kernel_rfl)) ⟨rePl (by kernel_rfl) (leB rfl) (flat_all _ (fun _ => rfl) _), ⟨rePl (by kernel_rfl) (leB rfl) (flat_all _ (fun _ => rfl) _), trivial⟩⟩) [B false] (by kernel_rfl) (by kernel_rfl) (leB rfl) (by kernel_rfl) ⟨⟨by kernel_rfl, leB rfl, (flat_all _ (fun _ => rfl) _)⟩, ⟨⟨by kernel_rfl, leB rfl, (flat_all _ (fun _ => rfl) _)⟩, trivial⟩⟩
          · refine dd_runG 4 7 3 false rfl (b := (x_39489.Kind == 1)) (by kernel_rfl) h_39529 (by kernel_rfl) ?_
            refine dd_one 7 (.pick (.tmp 63) (.const (.bool true)) (.tmp 66)) (some 67) (by kernel_rfl) (o_pure (B (x_39489.Kind == 2)) (ev_pickF h_39529 (by kernel_rfl) (by kernel_rfl)) rfl) ?_
            refine dd_run 8 9 rfl (by kernel_rfl) ?_
            refine ite_both h (fun h_39531 h => ?_) (fun h_39531 h => ?_)
            · refine dd_runG 9 14 8 true rfl (b := (x_39489.Kind == 2)) (by kernel_rfl) h_39531 (by kernel_rfl) ?_
              refine dd_one 14 (.pick (.tmp 68) (.tmp 73) (.const (.bool false))) (some 74) (by kernel_rfl) (o_pure (B (x_39494.1.Kind == x_39489.Kind)) (ev_pickT h_39531 (by kernel_rfl) (by kernel_rfl)) rfl) ?_
              refine dd_run 15 16 rfl (by kernel_rfl) ?_
              refine ite_both h (fun h_39532 h => ?_) (fun h_39532 h => ?_)
              · refine dd_runG 16 21 15 true rfl (b := (x_39494.1.Kind == x_39489.Kind)) (by kernel_rfl) h_39532 (by kernel_rfl) ?_
                refine dd_one 21 (.pick (.tmp 75) (.tmp 80) (.const (.bool false))) (some 81) (by kernel_rfl) (o_pure (B (x_39494.1.Base == x_39489.Base)) (ev_pickT h_39532 (by kernel_rfl) (by kernel_rfl)) rfl) ?_
                refine ops_fin' hK_39528 ⟨[(6, B (x_39494.1.Base == x_39489.Base))], [(0, ⟨42, 5, flat cs_Unit a1⟩), (1, ⟨54, 2, flat (cM cS cB) a3⟩), (2, ⟨42, 0, (cs_Unit x_39489)⟩), (3, ⟨42, 0, (cs_Unit x_39494.1)⟩)], 4⟩ (by kernel_rfl) (leB rfl) ?_
                refine w_ret ?_
                obtain rfl := ((Option.some.inj h).symm).symm
                exact ret_leaf (.inl rfl) ⟨[(6, B (x_39494.1.Base == x_39489.Base))], [(0, ⟨42, 5, flat cs_Unit a1⟩), (1, ⟨54, 2, flat (cM cS cB) a3⟩)], 2⟩ (to_ren [] (leB rfl) (by kernel_rfl) (by kernel_rfl) (renE_of (by kernel_rfl) (by kernel_rfl)) ⟨rePl (by kernel_rfl) (leB rfl) (flat_all _ (fun _ => rfl) _), ⟨rePl (by kernel_rfl) (leB rfl) (flat_all _ (fun _ => rfl) _), trivial⟩⟩) [B (x_39494.1.Base == x_39489.Base)] (by kernel_rfl) (by kernel_rfl) (leB rfl) (by kernel_rfl) ⟨⟨by kernel_rfl, leB rfl, (flat_all _ (fun _ => rfl) _)⟩, ⟨⟨by kernel_rfl, leB rfl, (flat_all _ (fun _ => rfl) _)⟩, trivial⟩⟩
              · refine dd_skip 16 21 15 true rfl (b := (x_39494.1.Kind == x_39489.Kind)) (by kernel_rfl) h_39532 (by kernel_rfl) ?_
                refine dd_one 21 (.pick (.tmp 75) (.tmp 80) (.const (.bool false))) (some 81) (by kernel_rfl) (o_pure (B false) (ev_pickF h_39532 (by kernel_rfl) (by kernel_rfl)) rfl) ?_
                refine ops_fin' hK_39528 ⟨[(6, B false)], [(0, ⟨42, 5, flat cs_Unit a1⟩), (1, ⟨54, 2, flat (cM cS cB) a3⟩), (2, ⟨42, 0, (cs_Unit x_39489)⟩), (3, ⟨42, 0, (cs_Unit x_39494.1)⟩)], 4⟩ (by kernel_rfl) (leB rfl) ?_
                refine w_ret ?_
                obtain rfl := ((Option.some.inj h).symm).symm
                exact ret_leaf (.inl rfl) ⟨[(6, B false)], [(0, ⟨42, 5, flat cs_Unit a1⟩), (1, ⟨54, 2, flat (cM cS cB) a3⟩)], 2⟩ (to_ren [] (leB rfl) (by kernel_rfl) (by kernel_rfl) (renE_of (by kernel_rfl) (by kernel_rfl)) ⟨rePl (by kernel_rfl) (leB rfl) (flat_all _ (fun _ => rfl) _), ⟨rePl (by kernel_rfl) (leB rfl) (flat_all _ (fun _ => rfl) _), trivial⟩⟩) [B false] (by kernel_rfl) (by kernel_rfl) (leB rfl) (by kernel_rfl) ⟨⟨by kernel_rfl, leB rfl, (flat_all _ (fun _ => rfl) _)⟩, ⟨⟨by kernel_rfl, leB rfl, (flat_all _ (fun _ => rfl) _)⟩, trivial⟩⟩
            · refine dd_skip 9 14 8 true rfl (b := (x_39489.Kind == 2)) (by kernel_rfl) h_39531 (by kernel_rfl) ?_
              refine dd_one 14 (.pick (.tmp 68) (.tmp 73) (.const (.bool false))) (some 74) (by kernel_rfl) (o_pure (B false) (ev_pickF h_39531 (by kernel_rfl) (by kernel_rfl)) rfl) ?_
              refine dd_run 15 16 rfl (by kernel_rfl) ?_
              refine dd_skip 16 21 15 true rfl (b := false) (by kernel_rfl) rfl (by kernel_rfl) ?_
              refine ops_fin' hK_39528 ⟨[(6, B false)], [(0, ⟨42, 5, flat cs_Unit a1⟩), (1, ⟨54, 2, flat (cM cS cB) a3⟩), (2, ⟨42, 0, (cs_Unit x_39489)⟩), (3, ⟨42, 0, (cs_Unit x_39494.1)⟩)], 4⟩ (by kernel_rfl) (leB rfl) ?_
              refine w_ret ?_
              obtain rfl := ((Option.some.inj h).symm).symm
              exact ret_leaf (.inl rfl) ⟨[(6, B false)], [(0, ⟨42, 5, flat cs_Unit a1⟩), (1, ⟨54, 2, flat (cM cS cB) a3⟩)], 2⟩ (to_ren [] (leB rfl) (by kernel_rfl) (by kernel_rfl) (renE_of (by kernel_rfl) (by kernel_rfl)) ⟨rePl (by kernel_rfl) (leB rfl) (flat_all _ (fun _ => rfl) _), ⟨rePl (by kernel_rfl) (leB rfl) (flat_all _ (fun _ => rfl) _), trivial⟩⟩) [B false] (by kernel_rfl) (by kernel_rfl) (leB rfl) (by kernel_rfl) ⟨⟨by kernel_rfl, leB rfl, (flat_all _ (fun _ => rfl) _)⟩, ⟨⟨by kernel_rfl, leB rfl, (flat_all _ (fun _ => rfl) _)⟩, trivial⟩⟩
/-- estoppel/quantity.Valid -/
def g_quantity_Valid_o (a1 : List D.Unit) : Option (Int × Bool) :=
  bindF (ρ := Unit) (
  loopO (σ := List (ByteArray × Bool) × Int) (fun s_39999 =>
  if (decide (s_39999.2 < (a1.length : Int))) = true then
  (getI a1 s_39999.2).bind fun x_40034 =>
  (g_estoppel_quantity_table_fits_o_o a1 s_39999.2 s_39999.1).bind fun x_40039 =>
  if (!x_40039) = true then
  some (.inr (.inr (s_39999.2, false)))
  else
  some (.inl ((putM s_39999.1 x_40034.Name true), (IntKind.i64.wrap (s_39999.2 + 1))))
  else
  some (.inr (.inl ()))) (([] : List (ByteArray × Bool)), 0)) (fun (e_39910 : Unit) =>
  some ((-1), true))
set_option maxHeartbeats 4000000 in
theorem g_quantity_Valid_o_ok {a1 : List D.Unit} {res : Int × Bool} (h : g_quantity_Valid_o a1 = some res) : SpecK Tryd.prog [0] 13 [.own 0 a1.length] [(0, ⟨42, 5, flat cs_Unit a1⟩)] 1 (.tup [I res.1, B res.2]) [(0, ⟨42, 5, flat cs_Unit a1⟩)] 1 := by
  refine ⟨spec_of_wp Tryd.func13 (by kernel_rfl) rfl Tryd.ntmps13 (by rw [Tryd.results13]) (leB rfl) ?_, by kernel_rfl, ⟨⟨leB rfl, flat_all (AV.keyed 0 4) (fun _ => rfl) _⟩, trivial⟩, by kernel_rfl, ⟨⟨leB rfl, flat_all (AV.keyed 0 4) (fun _ => rfl) _⟩, trivial⟩, by kernel_rfl⟩
  unfold g_quantity_Valid_o at h
  refine w_reg ⟨[(0, .own 0 a1.length)], [(0, ⟨42, 5, flat cs_Unit a1⟩)], 1⟩ (by kernel_rfl) (leB rfl) ?_
  refine w_reg ⟨[(0, .own 0 a1.length), (4, .mp 1)], [(1, ⟨54, 2, flat (cM cS cB) ([] : List (ByteArray × Bool))⟩), (0, ⟨42, 5, flat cs_Unit a1⟩)], 2⟩ (by kernel_rfl) (leB rfl) ?_
  refine w_assoc ?_
  refine w_reg ⟨[(0, .own 0 a1.length), (4, .mp 1), (8, .own 0 a1.length), (9, I (a1.length : Int)), (10, I 0)], [(1, ⟨54, 2, flat (cM cS cB) ([] : List (ByteArray × Bool))⟩), (0, ⟨42, 5, flat cs_Unit a1⟩)], 2⟩ (by kernel_rfl) (leB rfl) ?_
  refine w_cut h (fun (e_39910 : Unit) => ⟨[], [(0, ⟨42, 5, flat cs_Unit a1⟩)], 1⟩) (fun o h h_39911 K hK_39912 => ?_) (fun e_39910 h => ?_)
  · refine w_block ?_
    refine w_loopO h (fun (s_39999 : List (ByteArray × Bool) × Int) => ⟨[(0, .own 0 a1.length), (4, .mp 1), (8, .own 0 a1.length), (9, I (a1.length : Int)), (10, I s_39999.2)], [(0, ⟨42, 5, flat cs_Unit a1⟩), (1, ⟨54, 2, flat (cM cS cB) s_39999.1⟩)], 2⟩) (to_ren [] (leB rfl) (by kernel_rfl) (by kernel_rfl) (renE_of (by kernel_rfl) (by kernel_rfl)) ⟨rePl (by kernel_rfl) (leB rfl) (flat_all _ (fun _ => rfl) _), ⟨rePl (by kernel_rfl) (leB rfl) (flat_all _ (fun _ => rfl) _), trivial⟩⟩) (fun s_39999 o h h_40000 K hK_40001 => ?_)
    · refine w_reg ⟨[(0, .own 0 a1.length), (4, .mp 1), (8, .own 0 a1.length), (9, I (a1.length : Int)), (10, I s_39999.2), (11, B (decide (s_39999.2 < (a1.length : Int))))], [(0, ⟨42, 5, flat cs_Unit a1⟩), (1, ⟨54, 2, flat (cM cS cB) s_39999.1⟩)], 2⟩ (by kernel_rfl) (leB rfl) ?_
      refine w_seq (fun K hK_40003 => ?_)
      refine w_ite h (by kernel_rfl) (fun h_40004 h => ?_) (fun h_40004 h => ?_)
      · refine w_skip ?_
        refine hK_40003 _ ⟨[(0, .own 0 a1.length), (4, .mp 1), (8, .own 0 a1.length), (9, I (a1.length : Int)), (10, I s_39999.2)], [(0, ⟨42, 5, flat cs_Unit a1⟩), (1, ⟨54, 2, flat (cM cS cB) s_39999.1⟩)], 2⟩ (to_trim (by kernel_rfl) (leB rfl)) ?_
        refine w_seq (fun K hK_40024 => ?_)
        refine w_block ?_
        refine w_seq (fun K hK_40031 => w_reg0 ?_)
        refine dd_run 0 1 rfl (by kernel_rfl) ?_
        obtain ⟨x_40034, h_40035, h⟩ := bind_some' h
        refine dd_one 1 (.indexAddr 22 (.tmp 8) (.tmp 10)) (some 13) (by kernel_rfl) (o_pure (.ptr 0 (s_39999.2.toNat * 5)) (ev_idx_own (N := a1.length) (e := 42) (k := 5) (ik := .i64) h_40035 rfl (by kernel_rfl) (by kernel_rfl) (by kernel_rfl) (by kernel_rfl)) rfl) ?_
        refine dd_one 2 (.load 42 (.tmp 13)) (some 14) (by kernel_rfl) (o_pure (.agg (cs_Unit x_40034)) (ev_load_row (o := s_39999.2.toNat * 5) (b := 0) (i := s_39999.2.toNat) (j := 0) (k := 5) (c := cs_Unit) (sz := 5) (ty := 42) (fun _ => rfl) (getI_some h_40035).2 rfl (by kernel_rfl) (by kernel_rfl) (by kernel_rfl)) rfl) ?_
        refine ops_fin' hK_40031 ⟨[(0, .own 0 a1.length), (4, .mp 1), (5, I s_39999.2), (6, .ptr 2 0), (8, .own 0 a1.length), (9, I (a1.length : Int)), (10, I s_39999.2)], [(2, ⟨42, 0, (cs_Unit x_40034)⟩), (0, ⟨42, 5, flat cs_Unit a1⟩), (1, ⟨54, 2, flat (cM cS cB) s_39999.1⟩)], 3⟩ (by kernel_rfl) (leB rfl) ?_
        refine w_assoc ?_
        refine w_seq (fun K hK_40038 => w_reg0 ?_)
        refine dd_run 0 3 rfl (by kernel_rfl) ?_
        obtain ⟨x_40039, h_40040, h⟩ := bind_some' h
        refine dd_one 3 (.call ⟨.value (.func 28), #[(.tmp 15), (.tmp 16), (.tmp 17)], #[55, 3, 54]⟩) (some 18) (by kernel_rfl) (o_callE [0, 1] (g_estoppel_quantity_table_fits_o_o_ok h_40040) (by kernel_rfl) (by kernel_rfl) (by kernel_rfl) rfl) ?_
        refine ops_fin' hK_40038 ⟨[(0, .own 0 a1.length), (4, .mp 1), (5, I s_39999.2), (6, .ptr 2 0), (8, .own 0 a1.length), (9, I (a1.length : Int)), (10, I s_39999.2), (19, B (!x_40039))], [(0, ⟨42, 5, flat cs_Unit a1⟩), (1, ⟨54, 2, flat (cM cS cB) s_39999.1⟩), (2, ⟨42, 0, (cs_Unit x_40034)⟩)], 3⟩ (by kernel_rfl) (leB rfl) ?_
        refine w_seq (fun K hK_40042 => ?_)
        refine w_ite h (by kernel_rfl) (fun h_40043 h => ?_) (fun h_40043 h => ?_)
        · refine w_reg ⟨[(2, I s_39999.2), (3, B false)], [(0, ⟨42, 5, flat cs_Unit a1⟩), (1, ⟨54, 2, flat (cM cS cB) s_39999.1⟩), (2, ⟨42, 0, (cs_Unit x_40034)⟩)], 3⟩ (by kernel_rfl) (leB rfl) ?_
          refine w_ret ?_
          obtain rfl := ((h_39911 _ (h_40000 _ (Option.some.inj h).symm).symm).symm).symm
          exact ret_leaf (.inl rfl) ⟨[(2, I s_39999.2), (3, B false)], [(0, ⟨42, 5, flat cs_Unit a1⟩)], 1⟩ (to_ren [] (leB rfl) (by kernel_rfl) (by kernel_rfl) (renE_of (by kernel_rfl) (by kernel_rfl)) ⟨rePl (by kernel_rfl) (leB rfl) (flat_all _ (fun _ => rfl) _), trivial⟩) [I s_39999.2, B false] (by kernel_rfl) (by kernel_rfl) (leB rfl) (by kernel_rfl) ⟨⟨by kernel_rfl, leB rfl, (flat_all _ (fun _ => rfl) _)⟩, trivial⟩
        · refine w_skip ?_
          refine hK_40042 _ ⟨[(0, .own 0 a1.length), (4, .mp 1), (6, .ptr 2 0), (8, .own 0 a1.length), (9, I (a1.length : Int)), (10, I s_39999.2)], [(0, ⟨42, 5, flat cs_Unit a1⟩), (1, ⟨54, 2, flat (cM cS cB) s_39999.1⟩), (2, ⟨42, 0, (cs_Unit x_40034)⟩)], 3⟩ (to_trim (by kernel_rfl) (leB rfl)) ?_
          refine w_reg0 ?_
          refine dd_run 0 3 rfl (by kernel_rfl) ?_
          refine dd_one 3 (.mapUpdate 54 (.tmp 21) (.tmp 23) (.const (.bool true))) none (by kernel_rfl) (o_heap (U) [(0, ⟨42, 5, flat cs_Unit a1⟩), (1, ⟨54, 2, flat (cM cS cB) (putM s_39999.1 x_40034.Name true)⟩), (2, ⟨42, 0, (cs_Unit x_40034)⟩)] 3 (by kernel_rfl) (hv_mput (b := 1) (ty := 54) (kt := 9) (et := 4) (d := .string) (kv := (fun n_ => .string n_)) (kc := cS) (c := cB) (f := fun x_ => B x_) (l := s_39999.1) (k := x_40034.Name) (y := true) same_str (fun _ => rfl) (fun _ => rfl) (by kernel_rfl) (by kernel_rfl) (by kernel_rfl) (by kernel_rfl) (by kernel_rfl) (by kernel_rfl) (by kernel_rfl)) rfl) ?_
          refine dd_nil 4 rfl ?_
          refine hK_40024 _ ⟨[(0, .own 0 a1.length), (4, .mp 1), (8, .own 0 a1.length), (9, I (a1.length : Int)), (10, I s_39999.2)], [(0, ⟨42, 5, flat cs_Unit a1⟩), (1, ⟨54, 2, flat (cM cS cB) (putM s_39999.1 x_40034.Name true)⟩), (2, ⟨42, 0, (cs_Unit x_40034)⟩)], 3⟩ (to_trim (by kernel_rfl) (leB rfl)) ?_
          refine w_reg0 ?_
          refine dd_run 0 2 rfl (by kernel_rfl) ?_
          refine dd_nil 2 rfl ?_
          exact hK_40001 _ _ (Option.some.inj h).symm (to_ren [] (leB rfl) (by kernel_rfl) (by kernel_rfl) (renE_of (by kernel_rfl) (by kernel_rfl)) ⟨rePl (by kernel_rfl) (leB rfl) (flat_all _ (fun _ => rfl) _), ⟨rePl (by kernel_rfl) (leB rfl) (flat_all _ (fun _ => rfl) _), trivial⟩⟩)
      · refine w_exit ?_
        exact hK_39912 _ _ (h_40000 _ (Option.some.inj h).symm).symm (to_ren [] (leB rfl) (by kernel_rfl) (by kernel_rfl) (renE_of (by kernel_rfl) (by kernel_rfl)) ⟨rePl (by kernel_rfl) (leB rfl) (flat_all _ (fun _ => rfl) _), trivial⟩)
  · refine w_reg ⟨[(2, I (-1)), (3, B true)], [(0, ⟨42, 5, flat cs_Unit a1⟩)], 1⟩ (by kernel_rfl) (leB rfl) ?_
    refine w_ret ?_
    obtain rfl := ((Option.some.inj h).symm).symm
    exact ret_leaf (.inl rfl) ⟨[(2, I (-1)), (3, B true)], [(0, ⟨42, 5, flat cs_Unit a1⟩)], 1⟩ (to_ren [] (leB rfl) (by kernel_rfl) (by kernel_rfl) (renE_of (by kernel_rfl) (by kernel_rfl)) ⟨rePl (by kernel_rfl) (leB rfl) (flat_all _ (fun _ => rfl) _), trivial⟩) [I (-1), B true] (by kernel_rfl) (by kernel_rfl) (leB rfl) (by kernel_rfl) ⟨⟨by kernel_rfl, leB rfl, (flat_all _ (fun _ => rfl) _)⟩, trivial⟩
/-- estoppel/estoppellaw04.of -/
def g_estoppellaw04_of (a1 : Int) (a2 : Int) (a3 : Int) : Option (D.Amount) :=
  some (D.Amount.mk a3 (D.Ratio.mk a1 a2))
set_option maxHeartbeats 4000000 in
theorem g_estoppellaw04_of_ok {a1 : Int} {a2 : Int} {a3 : Int} {res : D.Amount} (h : g_estoppellaw04_of a1 a2 a3 = some res) : SpecK Tryd.prog [] 27 [I a1, I a2, I a3] [] 0 (.agg (cs_Amount res)) [] 0 := by
  refine ⟨spec_of_wp Tryd.func27 (by kernel_rfl) rfl Tryd.ntmps27 (by rw [Tryd.results27]) (leB rfl) ?_, by kernel_rfl, trivial, by kernel_rfl, trivial, by kernel_rfl⟩
  unfold g_estoppellaw04_of at h
  refine w_reg ⟨[(0, I a1), (1, I a2), (2, I a3), (6, .ptr 0 0)], [(0, ⟨33, 0, [I 0, I 0, I 0]⟩)], 1⟩ (by kernel_rfl) (leB rfl) ?_
  refine w_reg ⟨[(6, .ptr 0 0)], [(0, ⟨33, 0, [I a3, I a1, I a2]⟩)], 1⟩ (by kernel_rfl) (leB rfl) ?_
  refine w_ret ?_
  obtain rfl := ((Option.some.inj h).symm).symm
  exact ret_leaf (.inl rfl) ⟨[(6, .ptr 0 0)], [(0, ⟨33, 0, (cs_Amount (D.Amount.mk a3 (D.Ratio.mk a1 a2)))⟩)], 1⟩ (to_ren [] (leB rfl) (by kernel_rfl) (by kernel_rfl) (renE_of (by kernel_rfl) (by kernel_rfl)) ⟨reRn (by kernel_rfl) (leB rfl) (by kernel_rfl), trivial⟩) [.agg (cs_Amount (D.Amount.mk a3 (D.Ratio.mk a1 a2)))] (by kernel_rfl) (by kernel_rfl) (leB rfl) (by kernel_rfl) trivial
end Go.Proofs.YtdfokoapenhalaaDoor.Ab
