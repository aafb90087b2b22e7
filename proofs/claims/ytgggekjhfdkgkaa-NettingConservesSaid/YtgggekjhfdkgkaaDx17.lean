/- Functions of the program as plain functions (printed by wip/dec.py). -/
import Derived.Test.YtgggekjhfdkgkaaDx1
import Derived.Test.YtgggekjhfdkgkaaDx3
import Derived.Test.YtgggekjhfdkgkaaDx5
import Derived.Test.YtgggekjhfdkgkaaDx7
import Derived.Test.YtgggekjhfdkgkaaDx13
import Derived.Test.YtgggekjhfdkgkaaDx14
namespace Go.Proofs.Ytgggekjhfdkgkaa.Ab
open Go Go.RowKit Go.Shelf
/-- estoppel/estoppellaw42.NettingConserves -/
def g_estoppellaw42_NettingConserves (a1 : Int) (a2 : List D.Debt) : Option (Bool) :=
  (g_estoppellaw42_head).bind fun x_35522 =>
  if (decide ((a2.length : Int) > 400)) = true then
  some x_35522
  else
  (g_netting_Positions a1 a2).bind fun x_35531 =>
  if (x_35531.2 != 0) = true then
  if x_35522 = true then
  some ((x_35531.1.length : Int) == 0)
  else
  some false
  else
  bindF (ρ := D.Ratio × Bool) (
  loopO (σ := D.Ratio × Bool × Int) (fun s_35747 =>
  if (decide (s_35747.2.2 < (x_35531.1.length : Int))) = true then
  (getI x_35531.1 s_35747.2.2).bind fun x_35784 =>
  (g_ratio_Add s_35747.1 x_35784).bind fun x_35786 =>
  if s_35747.2.1 = true then
  some (.inl (x_35786.1, (x_35786.2 == 0), (IntKind.i64.wrap (s_35747.2.2 + 1))))
  else
  some (.inl (x_35786.1, false, (IntKind.i64.wrap (s_35747.2.2 + 1))))
  else
  some (.inr (.inl (s_35747.1, s_35747.2.1)))) ((D.Ratio.mk 0 1), true, 0)) (fun (e_35664 : D.Ratio × Bool) =>
  (g_netting_Net a1 a2).bind fun x_35794 =>
  (g_netting_Pairs a1 a2).bind fun x_35799 =>
  (g_netting_Positions a1 x_35794.1).bind fun x_35804 =>
  (g_netting_Positions a1 x_35799.1).bind fun x_35809 =>
  bindF (ρ := Bool) (
  if e_35664.2 = true then
  if (e_35664.1.Num != 0) = true then
  some (.inl true)
  else
  some (.inl ((x_35531.1.length : Int) != a1))
  else
  some (.inl ((x_35531.1.length : Int) != a1))) (fun (e_35813 : Bool) =>
  if e_35813 = true then
  some false
  else
  bindF (ρ := Bool) (
  if (x_35794.2 == 0) = true then
  (g_netting_Valid a1 x_35794.1).bind fun x_35837 =>
  if (!x_35837) = true then
  some (.inl true)
  else
  if (x_35804.2 != 0) = true then
  if (x_35804.2 != 2) = true then
  some (.inl true)
  else
  if (x_35804.2 == 0) = true then
  (g_estoppelref42_Ratios x_35531.1 x_35804.1).bind fun x_35843 =>
  some (.inl (!x_35843))
  else
  some (.inl false)
  else
  if (x_35804.2 == 0) = true then
  (g_estoppelref42_Ratios x_35531.1 x_35804.1).bind fun x_35846 =>
  some (.inl (!x_35846))
  else
  some (.inl false)
  else
  some (.inl false)) (fun (e_35833 : Bool) =>
  if e_35833 = true then
  some false
  else
  bindF (ρ := Bool) (
  if (x_35799.2 == 0) = true then
  (g_netting_Valid a1 x_35799.1).bind fun x_35867 =>
  if (!x_35867) = true then
  some (.inl true)
  else
  if (x_35809.2 != 0) = true then
  if (x_35809.2 != 2) = true then
  some (.inl true)
  else
  if (x_35809.2 == 0) = true then
  (g_estoppelref42_Ratios x_35531.1 x_35809.1).bind fun x_35873 =>
  some (.inl (!x_35873))
  else
  some (.inl false)
  else
  if (x_35809.2 == 0) = true then
  (g_estoppelref42_Ratios x_35531.1 x_35809.1).bind fun x_35876 =>
  some (.inl (!x_35876))
  else
  some (.inl false)
  else
  some (.inl false)) (fun (e_35863 : Bool) =>
  if e_35863 = true then
  some false
  else
  if x_35522 = true then
  if (x_35794.2 == 0) = true then
  if (x_35799.2 == 0) = true then
  some true
  else
  some (x_35799.2 == 2)
  else
  if (x_35794.2 == 2) = true then
  if (x_35799.2 == 0) = true then
  some true
  else
  some (x_35799.2 == 2)
  else
  some false
  else
  some false))))
set_option maxHeartbeats 4000000 in
theorem g_estoppellaw42_NettingConserves_ok {a1 : Int} {a2 : List D.Debt} {res : Bool} (h : g_estoppellaw42_NettingConserves a1 a2 = some res) : SpecK Try.prog [] 4 [I a1, sl 4 cs_Debt a2] [] 0 (B res) [] 0 := by
  refine ⟨spec_of_wp Try.func4 (by kernel_rfl) rfl Try.ntmps4 (by rw [Try.results4]) (leB rfl) ?_, by kernel_rfl, trivial, by kernel_rfl, trivial, by kernel_rfl⟩
  unfold g_estoppellaw42_NettingConserves at h
  refine w_reg ⟨[(0, I a1), (1, sl 4 cs_Debt a2)], [], 0⟩ (by kernel_rfl) (leB rfl) ?_
  refine w_seq (fun K hK_35521 => w_reg0 ?_)
  obtain ⟨x_35522, h_35523, h⟩ := bind_some' h
  refine dd_one 0 (.call ⟨.value (.func 9), #[], #[]⟩) (some 21) (by kernel_rfl) (o_callP (g_estoppellaw42_head_ok h_35523) (by kernel_rfl) rfl) ?_
  refine ops_fin' hK_35521 ⟨[(0, I a1), (1, sl 4 cs_Debt a2), (5, B x_35522)], [], 0⟩ (by kernel_rfl) (leB rfl) ?_
  refine w_assoc ?_
  refine w_seq (fun K hK_35524 => w_reg0 ?_)
  refine dd_run 0 1 rfl (by kernel_rfl) ?_
  refine dd_one 1 (.call ⟨.builtin .len, #[(.tmp 22)], #[22]⟩) (some 23) (by kernel_rfl) (o_pure (I (a2.length : Int)) (ev_len_sl (e := 38) (ty := 0) (k := 4) (c := cs_Debt) (by kernel_rfl) (by kernel_rfl)) rfl) ?_
  refine ops_fin' hK_35524 ⟨[(0, I a1), (1, sl 4 cs_Debt a2), (5, B x_35522), (24, B (decide ((a2.length : Int) > 400)))], [], 0⟩ (by kernel_rfl) (leB rfl) ?_
  refine w_seq (fun K hK_35526 => ?_)
  refine w_ite h (by kernel_rfl) (fun h_35527 h => ?_) (fun h_35527 h => ?_)
  · refine w_reg ⟨[(4, B x_35522)], [], 0⟩ (by kernel_rfl) (leB rfl) ?_
    refine w_ret ?_
    obtain rfl := ((Option.some.inj h).symm).symm
    exact ret_leaf (.inl rfl) ⟨[(4, B x_35522)], [], 0⟩ (to_ren [] (leB rfl) (by kernel_rfl) (by kernel_rfl) (renE_of (by kernel_rfl) (by kernel_rfl)) trivial) [B x_35522] (by kernel_rfl) (by kernel_rfl) (leB rfl) (by kernel_rfl) trivial
  · refine w_skip ?_
    refine hK_35526 _ ⟨[(0, I a1), (1, sl 4 cs_Debt a2), (5, B x_35522)], [], 0⟩ (to_trim (by kernel_rfl) (leB rfl)) ?_
    refine w_seq (fun K hK_35530 => w_reg0 ?_)
    refine dd_run 0 2 rfl (by kernel_rfl) ?_
    obtain ⟨x_35531, h_35532, h⟩ := bind_some' h
    refine dd_one 2 (.call ⟨.value (.func 10), #[(.tmp 27), (.tmp 28)], #[3, 22]⟩) (some 29) (by kernel_rfl) (o_callP (g_netting_Positions_ok h_35532) (by kernel_rfl) rfl) ?_
    refine ops_fin' hK_35530 ⟨[(0, I a1), (1, sl 4 cs_Debt a2), (5, B x_35522), (6, sl 2 cs_Ratio x_35531.1), (7, I x_35531.2)], [], 0⟩ (by kernel_rfl) (leB rfl) ?_
    refine w_assoc ?_
    refine w_reg ⟨[(0, I a1), (1, sl 4 cs_Debt a2), (5, B x_35522), (6, sl 2 cs_Ratio x_35531.1), (33, B (x_35531.2 != 0))], [], 0⟩ (by kernel_rfl) (leB rfl) ?_
    refine w_seq (fun K hK_35537 => ?_)
    refine w_ite h (by kernel_rfl) (fun h_35538 h => ?_) (fun h_35538 h => ?_)
    · refine w_seq (fun K hK_35540 => w_reg0 ?_)
      refine dd_run 0 2 rfl (by kernel_rfl) ?_
      refine ite_both h (fun h_35541 h => ?_) (fun h_35541 h => ?_)
      · refine dd_runG 2 3 1 true rfl (b := x_35522) (by kernel_rfl) h_35541 (by kernel_rfl) ?_
        refine dd_oneG 3 (.call ⟨.builtin .len, #[(.tmp 36)], #[24]⟩) (some 37) 1 true (b := x_35522) (by kernel_rfl) (by kernel_rfl) h_35541 (o_pure (I (x_35531.1.length : Int)) (ev_len_sl (e := 34) (ty := 0) (k := 2) (c := cs_Ratio) (by kernel_rfl) (by kernel_rfl)) rfl) ?_
        refine dd_runG 4 5 1 true rfl (b := x_35522) (by kernel_rfl) h_35541 (by kernel_rfl) ?_
        refine dd_one 5 (.pick (.tmp 35) (.tmp 38) (.const (.bool false))) (some 39) (by kernel_rfl) (o_pure (B ((x_35531.1.length : Int) == 0)) (ev_pickT h_35541 (by kernel_rfl) (by kernel_rfl)) rfl) ?_
        refine ops_fin' hK_35540 ⟨[(4, B ((x_35531.1.length : Int) == 0))], [], 0⟩ (by kernel_rfl) (leB rfl) ?_
        refine w_ret ?_
        obtain rfl := ((Option.some.inj h).symm).symm
        exact ret_leaf (.inl rfl) ⟨[(4, B ((x_35531.1.length : Int) == 0))], [], 0⟩ (to_ren [] (leB rfl) (by kernel_rfl) (by kernel_rfl) (renE_of (by kernel_rfl) (by kernel_rfl)) trivial) [B ((x_35531.1.length : Int) == 0)] (by kernel_rfl) (by kernel_rfl) (leB rfl) (by kernel_rfl) trivial
      · refine dd_skip 2 5 1 true rfl (b := x_35522) (by kernel_rfl) h_35541 (by kernel_rfl) ?_
        refine dd_one 5 (.pick (.tmp 35) (.tmp 38) (.const (.bool false))) (some 39) (by kernel_rfl) (o_pure (B false) (ev_pickF h_35541 (by kernel_rfl) (by kernel_rfl)) rfl) ?_
        refine ops_fin' hK_35540 ⟨[(4, B false)], [], 0⟩ (by kernel_rfl) (leB rfl) ?_
        refine w_ret ?_
        obtain rfl := ((Option.some.inj h).symm).symm
        exact ret_leaf (.inl rfl) ⟨[(4, B false)], [], 0⟩ (to_ren [] (leB rfl) (by kernel_rfl) (by kernel_rfl) (renE_of (by kernel_rfl) (by kernel_rfl)) trivial) [B false] (by kernel_rfl) (by kernel_rfl) (leB rfl) (by kernel_rfl) trivial
    · refine w_skip ?_
      refine hK_35537 _ ⟨[(0, I a1), (1, sl 4 cs_Debt a2), (5, B x_35522), (6, sl 2 cs_Ratio x_35531.1)], [], 0⟩ (to_trim (by kernel_rfl) (leB rfl)) ?_
      refine w_reg ⟨[(0, I a1), (1, sl 4 cs_Debt a2), (5, B x_35522), (6, sl 2 cs_Ratio x_35531.1), (8, .ptr 0 0)], [(0, ⟨34, 0, [I 0, I 1]⟩)], 1⟩ (by kernel_rfl) (leB rfl) ?_
      refine w_reg ⟨[(0, I a1), (1, sl 4 cs_Debt a2), (5, B x_35522), (6, sl 2 cs_Ratio x_35531.1), (8, .ptr 0 0), (9, B true)], [(0, ⟨34, 0, [I 0, I 1]⟩)], 1⟩ (by kernel_rfl) (leB rfl) ?_
      refine w_assoc ?_
      refine w_reg ⟨[(0, I a1), (1, sl 4 cs_Debt a2), (5, B x_35522), (6, sl 2 cs_Ratio x_35531.1), (8, .ptr 0 0), (9, B true), (10, I 0)], [(0, ⟨34, 0, [I 0, I 1]⟩)], 1⟩ (by kernel_rfl) (leB rfl) ?_
      refine w_cut h (fun (e_35664 : D.Ratio × Bool) => ⟨[(0, I a1), (1, sl 4 cs_Debt a2), (5, B x_35522), (6, sl 2 cs_Ratio x_35531.1), (8, .ptr 0 0), (9, B e_35664.2)], [(0, ⟨34, 0, (cs_Ratio e_35664.1)⟩)], 1⟩) (fun o h h_35665 K hK_35666 => ?_) (fun e_35664 h => ?_)
      · refine w_block ?_
        refine w_loopO h (fun (s_35747 : D.Ratio × Bool × Int) => ⟨[(0, I a1), (1, sl 4 cs_Debt a2), (5, B x_35522), (6, sl 2 cs_Ratio x_35531.1), (8, .ptr 0 0), (9, B s_35747.2.1), (10, I s_35747.2.2)], [(0, ⟨34, 0, (cs_Ratio s_35747.1)⟩)], 1⟩) (to_ren [] (leB rfl) (by kernel_rfl) (by kernel_rfl) (renE_of (by kernel_rfl) (by kernel_rfl)) ⟨reRn (by kernel_rfl) (leB rfl) (by kernel_rfl), trivial⟩) (fun s_35747 o h h_35748 K hK_35749 => ?_)
        · refine w_assoc ?_
          refine w_seq (fun K hK_35750 => w_reg0 ?_)
          refine dd_run 0 2 rfl (by kernel_rfl) ?_
          refine dd_one 2 (.call ⟨.builtin .len, #[(.tmp 42)], #[24]⟩) (some 43) (by kernel_rfl) (o_pure (I (x_35531.1.length : Int)) (ev_len_sl (e := 34) (ty := 0) (k := 2) (c := cs_Ratio) (by kernel_rfl) (by kernel_rfl)) rfl) ?_
          refine ops_fin' hK_35750 ⟨[(0, I a1), (1, sl 4 cs_Debt a2), (5, B x_35522), (6, sl 2 cs_Ratio x_35531.1), (8, .ptr 0 0), (9, B s_35747.2.1), (10, I s_35747.2.2), (44, B (decide (s_35747.2.2 < (x_35531.1.length : Int))))], [(0, ⟨34, 0, (cs_Ratio s_35747.1)⟩)], 1⟩ (by kernel_rfl) (leB rfl) ?_
          refine w_seq (fun K hK_35752 => ?_)
          refine w_ite h (by kernel_rfl) (fun h_35753 h => ?_) (fun h_35753 h => ?_)
          · refine w_skip ?_
            refine hK_35752 _ ⟨[(0, I a1), (1, sl 4 cs_Debt a2), (5, B x_35522), (6, sl 2 cs_Ratio x_35531.1), (8, .ptr 0 0), (9, B s_35747.2.1), (10, I s_35747.2.2)], [(0, ⟨34, 0, (cs_Ratio s_35747.1)⟩)], 1⟩ (to_trim (by kernel_rfl) (leB rfl)) ?_
            refine w_seq (fun K hK_35772 => ?_)
            refine w_block ?_
            refine w_seq (fun K hK_35781 => w_mix0 (by kernel_rfl) (by kernel_rfl) ?_)
            refine mm_run 0 3 rfl (by kernel_rfl) ?_
            obtain ⟨x_35784, h_35785, h⟩ := bind_some' h
            refine mm_one 3 (.indexAddr 24 (.tmp 49) (.tmp 50)) (some 51) (by kernel_rfl) (by kernel_rfl) (oH_pure (.ip (cs_Ratio x_35784)) (ev_idx_sl (e := 34) (k := 2) (c := cs_Ratio) (ik := .i64) h_35785 (by kernel_rfl) (by kernel_rfl) (by kernel_rfl) (by kernel_rfl)) rfl) ?_
            refine mm_run 4 5 rfl (by kernel_rfl) ?_
            obtain ⟨x_35786, h_35787, h⟩ := bind_some' h
            refine mm_one 5 (.call ⟨.value (.func 20), #[(.tmp 48), (.tmp 52)], #[34, 34]⟩) (some 53) (by kernel_rfl) (by kernel_rfl) (oH_callP (g_ratio_Add_ok h_35787) (by kernel_rfl) rfl) ?_
            refine mm_run 6 9 rfl (by kernel_rfl) ?_
            refine mm_ops 9 (.alloc 34) (some 11) none (by kernel_rfl) (by kernel_rfl) ?_
            refine ops_fin' hK_35781 ⟨[(0, I a1), (1, sl 4 cs_Debt a2), (5, B x_35522), (6, sl 2 cs_Ratio x_35531.1), (8, .ptr 0 0), (9, B s_35747.2.1), (10, I s_35747.2.2), (11, .ptr 1 0), (12, I x_35786.2)], [(1, ⟨34, 0, (cs_Ratio x_35786.1)⟩), (0, ⟨34, 0, (cs_Ratio s_35747.1)⟩)], 2⟩ (by kernel_rfl) (leB rfl) ?_
            refine w_seq (fun K hK_35789 => w_reg0 ?_)
            refine dd_run 0 2 rfl (by kernel_rfl) ?_
            refine ite_both h (fun h_35790 h => ?_) (fun h_35790 h => ?_)
            · refine dd_runG 2 4 1 true rfl (b := s_35747.2.1) (by kernel_rfl) h_35790 (by kernel_rfl) ?_
              refine dd_one 4 (.pick (.tmp 57) (.tmp 59) (.const (.bool false))) (some 60) (by kernel_rfl) (o_pure (B (x_35786.2 == 0)) (ev_pickT h_35790 (by kernel_rfl) (by kernel_rfl)) rfl) ?_
              refine ops_fin' hK_35789 ⟨[(0, I a1), (1, sl 4 cs_Debt a2), (5, B x_35522), (6, sl 2 cs_Ratio x_35531.1), (8, .ptr 0 0), (9, B (x_35786.2 == 0)), (10, I s_35747.2.2), (11, .ptr 1 0)], [(1, ⟨34, 0, (cs_Ratio x_35786.1)⟩), (0, ⟨34, 0, (cs_Ratio s_35747.1)⟩)], 2⟩ (by kernel_rfl) (leB rfl) ?_
              refine w_reg0 ?_
              refine dd_run 0 2 rfl (by kernel_rfl) ?_
              refine dd_nil 2 rfl ?_
              refine hK_35772 _ ⟨[(0, I a1), (1, sl 4 cs_Debt a2), (5, B x_35522), (6, sl 2 cs_Ratio x_35531.1), (8, .ptr 0 0), (9, B (x_35786.2 == 0)), (10, I s_35747.2.2)], [(1, ⟨34, 0, (cs_Ratio x_35786.1)⟩), (0, ⟨34, 0, (cs_Ratio x_35786.1)⟩)], 2⟩ (to_trim (by kernel_rfl) (leB rfl)) ?_
              refine w_reg0 ?_
              refine dd_run 0 3 rfl (by kernel_rfl) ?_
              refine dd_nil 3 rfl ?_
              exact hK_35749 _ _ (Option.some.inj h).symm (to_ren [] (leB rfl) (by kernel_rfl) (by kernel_rfl) (renE_of (by kernel_rfl) (by kernel_rfl)) ⟨reRn (by kernel_rfl) (leB rfl) (by kernel_rfl), trivial⟩)
            · refine dd_skip 2 4 1 true rfl (b := s_35747.2.1) (by kernel_rfl) h_35790 (by kernel_rfl) ?_
              refine dd_one 4 (.pick (.tmp 57) (.tmp 59) (.const (.bool false))) (some 60) (by kernel_rfl) (o_pure (B false) (ev_pickF h_35790 (by kernel_rfl) (by kernel_rfl)) rfl) ?_
              refine ops_fin' hK_35789 ⟨[(0, I a1), (1, sl 4 cs_Debt a2), (5, B x_35522), (6, sl 2 cs_Ratio x_35531.1), (8, .ptr 0 0), (9, B false), (10, I s_35747.2.2), (11, .ptr 1 0)], [(1, ⟨34, 0, (cs_Ratio x_35786.1)⟩), (0, ⟨34, 0, (cs_Ratio s_35747.1)⟩)], 2⟩ (by kernel_rfl) (leB rfl) ?_
              refine w_reg0 ?_
              refine dd_run 0 2 rfl (by kernel_rfl) ?_
              refine dd_nil 2 rfl ?_
              refine hK_35772 _ ⟨[(0, I a1), (1, sl 4 cs_Debt a2), (5, B x_35522), (6, sl 2 cs_Ratio x_35531.1), (8, .ptr 0 0), (9, B false), (10, I s_35747.2.2)], [(1, ⟨34, 0, (cs_Ratio x_35786.1)⟩), (0, ⟨34, 0, (cs_Ratio x_35786.1)⟩)], 2⟩ (to_trim (by kernel_rfl) (leB rfl)) ?_
              refine w_reg0 ?_
              refine dd_run 0 3 rfl (by kernel_rfl) ?_
              refine dd_nil 3 rfl ?_
              exact hK_35749 _ _ (Option.some.inj h).symm (to_ren [] (leB rfl) (by kernel_rfl) (by kernel_rfl) (renE_of (by kernel_rfl) (by kernel_rfl)) ⟨reRn (by kernel_rfl) (leB rfl) (by kernel_rfl), trivial⟩)
          · refine w_exit ?_
            exact hK_35666 _ _ (h_35748 _ (Option.some.inj h).symm).symm (to_ren [] (leB rfl) (by kernel_rfl) (by kernel_rfl) (renE_of (by kernel_rfl) (by kernel_rfl)) ⟨reRn (by kernel_rfl) (leB rfl) (by kernel_rfl), trivial⟩)
      · refine w_seq (fun K hK_35793 => w_reg0 ?_)
        refine dd_run 0 2 rfl (by kernel_rfl) ?_
        obtain ⟨x_35794, h_35795, h⟩ := bind_some' h
        refine dd_one 2 (.call ⟨.value (.func 14), #[(.tmp 63), (.tmp 64)], #[3, 22]⟩) (some 65) (by kernel_rfl) (o_callP (g_netting_Net_ok h_35795) (by kernel_rfl) rfl) ?_
        refine ops_fin' hK_35793 ⟨[(0, I a1), (1, sl 4 cs_Debt a2), (5, B x_35522), (6, sl 2 cs_Ratio x_35531.1), (8, .ptr 0 0), (9, B e_35664.2), (13, sl 4 cs_Debt x_35794.1), (14, I x_35794.2)], [(0, ⟨34, 0, (cs_Ratio e_35664.1)⟩)], 1⟩ (by kernel_rfl) (leB rfl) ?_
        refine w_seq (fun K hK_35798 => w_reg0 ?_)
        refine dd_run 0 2 rfl (by kernel_rfl) ?_
        obtain ⟨x_35799, h_35800, h⟩ := bind_some' h
        refine dd_one 2 (.call ⟨.value (.func 12), #[(.tmp 69), (.tmp 70)], #[3, 22]⟩) (some 71) (by kernel_rfl) (o_callP (g_netting_Pairs_ok h_35800) (by kernel_rfl) rfl) ?_
        refine ops_fin' hK_35798 ⟨[(0, I a1), (5, B x_35522), (6, sl 2 cs_Ratio x_35531.1), (8, .ptr 0 0), (9, B e_35664.2), (13, sl 4 cs_Debt x_35794.1), (14, I x_35794.2), (15, sl 4 cs_Debt x_35799.1), (16, I x_35799.2)], [(0, ⟨34, 0, (cs_Ratio e_35664.1)⟩)], 1⟩ (by kernel_rfl) (leB rfl) ?_
        refine w_seq (fun K hK_35803 => w_reg0 ?_)
        refine dd_run 0 2 rfl (by kernel_rfl) ?_
        obtain ⟨x_35804, h_35805, h⟩ := bind_some' h
        refine dd_one 2 (.call ⟨.value (.func 10), #[(.tmp 75), (.tmp 76)], #[3, 22]⟩) (some 77) (by kernel_rfl) (o_callP (g_netting_Positions_ok h_35805) (by kernel_rfl) rfl) ?_
        refine ops_fin' hK_35803 ⟨[(0, I a1), (5, B x_35522), (6, sl 2 cs_Ratio x_35531.1), (8, .ptr 0 0), (9, B e_35664.2), (13, sl 4 cs_Debt x_35794.1), (14, I x_35794.2), (15, sl 4 cs_Debt x_35799.1), (16, I x_35799.2), (17, sl 2 cs_Ratio x_35804.1), (18, I x_35804.2)], [(0, ⟨34, 0, (cs_Ratio e_35664.1)⟩)], 1⟩ (by kernel_rfl) (leB rfl) ?_
        refine w_seq (fun K hK_35808 => w_reg0 ?_)
        refine dd_run 0 2 rfl (by kernel_rfl) ?_
        obtain ⟨x_35809, h_35810, h⟩ := bind_some' h
        refine dd_one 2 (.call ⟨.value (.func 10), #[(.tmp 81), (.tmp 82)], #[3, 22]⟩) (some 83) (by kernel_rfl) (o_callP (g_netting_Positions_ok h_35810) (by kernel_rfl) rfl) ?_
        refine ops_fin' hK_35808 ⟨[(0, I a1), (5, B x_35522), (6, sl 2 cs_Ratio x_35531.1), (8, .ptr 0 0), (9, B e_35664.2), (13, sl 4 cs_Debt x_35794.1), (14, I x_35794.2), (15, sl 4 cs_Debt x_35799.1), (16, I x_35799.2), (17, sl 2 cs_Ratio x_35804.1), (18, I x_35804.2), (19, sl 2 cs_Ratio x_35809.1), (20, I x_35809.2)], [(0, ⟨34, 0, (cs_Ratio e_35664.1)⟩)], 1⟩ (by kernel_rfl) (leB rfl) ?_
        refine w_assoc ?_
        refine w_cut h (fun (e_35813 : Bool) => ⟨[(0, I a1), (5, B x_35522), (6, sl 2 cs_Ratio x_35531.1), (13, sl 4 cs_Debt x_35794.1), (14, I x_35794.2), (15, sl 4 cs_Debt x_35799.1), (16, I x_35799.2), (17, sl 2 cs_Ratio x_35804.1), (18, I x_35804.2), (19, sl 2 cs_Ratio x_35809.1), (20, I x_35809.2), (97, B e_35813)], [], 0⟩) (fun o h h_35814 K hK_35815 => ?_) (fun e_35813 h => ?_)
        · refine w_reg0 ?_
          refine dd_run 0 2 rfl (by kernel_rfl) ?_
          refine ite_both h (fun h_35816 h => ?_) (fun h_35816 h => ?_)
          · refine dd_runG 2 5 1 true rfl (b := e_35664.2) (by kernel_rfl) h_35816 (by kernel_rfl) ?_
            refine dd_one 5 (.pick (.tmp 87) (.tmp 90) (.const (.bool false))) (some 91) (by kernel_rfl) (o_pure (B (e_35664.1.Num != 0)) (ev_pickT h_35816 (by kernel_rfl) (by kernel_rfl)) rfl) ?_
            refine dd_run 6 7 rfl (by kernel_rfl) ?_
            refine ite_both h (fun h_35817 h => ?_) (fun h_35817 h => ?_)
            · refine dd_skip 7 11 6 false rfl (b := (e_35664.1.Num != 0)) (by kernel_rfl) h_35817 (by kernel_rfl) ?_
              refine dd_one 11 (.pick (.tmp 92) (.const (.bool true)) (.tmp 96)) (some 97) (by kernel_rfl) (o_pure (B true) (ev_pickT h_35817 (by kernel_rfl) (by kernel_rfl)) rfl) ?_
              refine dd_nil 12 rfl ?_
              exact hK_35815 _ _ (Option.some.inj h).symm (to_ren [] (leB rfl) (by kernel_rfl) (by kernel_rfl) (renE_of (by kernel_rfl) (by kernel_rfl)) trivial)
            · refine dd_runG 7 8 6 false rfl (b := (e_35664.1.Num != 0)) (by kernel_rfl) h_35817 (by kernel_rfl) ?_
              refine dd_oneG 8 (.call ⟨.builtin .len, #[(.tmp 93)], #[24]⟩) (some 94) 6 false (b := (e_35664.1.Num != 0)) (by kernel_rfl) (by kernel_rfl) h_35817 (o_pure (I (x_35531.1.length : Int)) (ev_len_sl (e := 34) (ty := 0) (k := 2) (c := cs_Ratio) (by kernel_rfl) (by kernel_rfl)) rfl) ?_
              refine dd_runG 9 11 6 false rfl (b := (e_35664.1.Num != 0)) (by kernel_rfl) h_35817 (by kernel_rfl) ?_
              refine dd_one 11 (.pick (.tmp 92) (.const (.bool true)) (.tmp 96)) (some 97) (by kernel_rfl) (o_pure (B ((x_35531.1.length : Int) != a1)) (ev_pickF h_35817 (by kernel_rfl) (by kernel_rfl)) rfl) ?_
              refine dd_nil 12 rfl ?_
              exact hK_35815 _ _ (Option.some.inj h).symm (to_ren [] (leB rfl) (by kernel_rfl) (by kernel_rfl) (renE_of (by kernel_rfl) (by kernel_rfl)) trivial)
          · refine dd_skip 2 5 1 true rfl (b := e_35664.2) (by kernel_rfl) h_35816 (by kernel_rfl) ?_
            refine dd_one 5 (.pick (.tmp 87) (.tmp 90) (.const (.bool false))) (some 91) (by kernel_rfl) (o_pure (B false) (ev_pickF h_35816 (by kernel_rfl) (by kernel_rfl)) rfl) ?_
            refine dd_run 6 7 rfl (by kernel_rfl) ?_
            refine dd_runG 7 8 6 false rfl (b := false) (by kernel_rfl) rfl (by kernel_rfl) ?_
            refine dd_oneG 8 (.call ⟨.builtin .len, #[(.tmp 93)], #[24]⟩) (some 94) 6 false (b := false) (by kernel_rfl) (by kernel_rfl) rfl (o_pure (I (x_35531.1.length : Int)) (ev_len_sl (e := 34) (ty := 0) (k := 2) (c := cs_Ratio) (by kernel_rfl) (by kernel_rfl)) rfl) ?_
            refine dd_runG 9 11 6 false rfl (b := false) (by kernel_rfl) rfl (by kernel_rfl) ?_
            refine dd_run 11 12 rfl (by kernel_rfl) ?_
            refine dd_nil 12 rfl ?_
            exact hK_35815 _ _ (Option.some.inj h).symm (to_ren [] (leB rfl) (by kernel_rfl) (by kernel_rfl) (renE_of (by kernel_rfl) (by kernel_rfl)) trivial)
        · refine w_seq (fun K hK_35819 => ?_)
          refine w_ite h (by kernel_rfl) (fun h_35820 h => ?_) (fun h_35820 h => ?_)
          · refine w_reg ⟨[(4, B false)], [], 0⟩ (by kernel_rfl) (leB rfl) ?_
            refine w_ret ?_
            obtain rfl := ((Option.some.inj h).symm).symm
            exact ret_leaf (.inl rfl) ⟨[(4, B false)], [], 0⟩ (to_ren [] (leB rfl) (by kernel_rfl) (by kernel_rfl) (renE_of (by kernel_rfl) (by kernel_rfl)) trivial) [B false] (by kernel_rfl) (by kernel_rfl) (leB rfl) (by kernel_rfl) trivial
          · refine w_skip ?_
            refine hK_35819 _ ⟨[(0, I a1), (5, B x_35522), (6, sl 2 cs_Ratio x_35531.1), (13, sl 4 cs_Debt x_35794.1), (14, I x_35794.2), (15, sl 4 cs_Debt x_35799.1), (16, I x_35799.2), (17, sl 2 cs_Ratio x_35804.1), (18, I x_35804.2), (19, sl 2 cs_Ratio x_35809.1), (20, I x_35809.2)], [], 0⟩ (to_trim (by kernel_rfl) (leB rfl)) ?_
            refine w_assoc ?_
            refine w_cut h (fun (e_35833 : Bool) => ⟨[(0, I a1), (5, B x_35522), (6, sl 2 cs_Ratio x_35531.1), (14, I x_35794.2), (15, sl 4 cs_Debt x_35799.1), (16, I x_35799.2), (19, sl 2 cs_Ratio x_35809.1), (20, I x_35809.2), (123, B e_35833)], [], 0⟩) (fun o h h_35834 K hK_35835 => ?_) (fun e_35833 h => ?_)
            · refine w_reg0 ?_
              refine dd_run 0 3 rfl (by kernel_rfl) ?_
              refine ite_both h (fun h_35836 h => ?_) (fun h_35836 h => ?_)
              · refine dd_runG 3 5 2 true rfl (b := (x_35794.2 == 0)) (by kernel_rfl) h_35836 (by kernel_rfl) ?_
                obtain ⟨x_35837, h_35838, h⟩ := bind_some' h
                refine dd_oneG 5 (.call ⟨.value (.func 16), #[(.tmp 101), (.tmp 102)], #[3, 22]⟩) (some 103) 2 true (b := (x_35794.2 == 0)) (by kernel_rfl) (by kernel_rfl) h_35836 (o_callP (g_netting_Valid_ok h_35838) (by kernel_rfl) rfl) ?_
                refine dd_runG 6 8 2 true rfl (b := (x_35794.2 == 0)) (by kernel_rfl) h_35836 (by kernel_rfl) ?_
                refine ite_both h (fun h_35839 h => ?_) (fun h_35839 h => ?_)
                · refine dd_skip 8 11 7 false rfl (b := (!x_35837)) (by kernel_rfl) h_35839 (by kernel_rfl) ?_
                  refine dd_skipU 11 13 10 true rfl (by kernel_rfl) (by kernel_rfl) ?_
                  refine dd_skip 13 14 7 false rfl (b := (!x_35837)) (by kernel_rfl) h_35839 (by kernel_rfl) ?_
                  refine dd_oneG 14 (.pick (.tmp 105) (.const (.bool true)) (.tmp 111)) (some 112) 2 true (b := (x_35794.2 == 0)) (by kernel_rfl) (by kernel_rfl) h_35836 (o_pure (B true) (ev_pickT h_35839 (by kernel_rfl) (by kernel_rfl)) rfl) ?_
                  refine dd_runG 15 16 2 true rfl (b := (x_35794.2 == 0)) (by kernel_rfl) h_35836 (by kernel_rfl) ?_
                  refine dd_skip 16 19 15 false rfl (b := true) (by kernel_rfl) rfl (by kernel_rfl) ?_
                  refine dd_skipU 19 23 18 true rfl (by kernel_rfl) (by kernel_rfl) ?_
                  refine dd_skip 23 24 15 false rfl (b := true) (by kernel_rfl) rfl (by kernel_rfl) ?_
                  refine dd_runG 24 25 2 true rfl (b := (x_35794.2 == 0)) (by kernel_rfl) h_35836 (by kernel_rfl) ?_
                  refine dd_one 25 (.pick (.tmp 100) (.tmp 122) (.const (.bool false))) (some 123) (by kernel_rfl) (o_pure (B true) (ev_pickT h_35836 (by kernel_rfl) (by kernel_rfl)) rfl) ?_
                  refine dd_nil 26 rfl ?_
                  exact hK_35835 _ _ (Option.some.inj h).symm (to_ren [] (leB rfl) (by kernel_rfl) (by kernel_rfl) (renE_of (by kernel_rfl) (by kernel_rfl)) trivial)
                · refine dd_runG 8 11 7 false rfl (b := (!x_35837)) (by kernel_rfl) h_35839 (by kernel_rfl) ?_
                  refine ite_both h (fun h_35840 h => ?_) (fun h_35840 h => ?_)
                  · refine dd_runG 11 13 10 true rfl (b := (x_35804.2 != 0)) (by kernel_rfl) h_35840 (by kernel_rfl) ?_
                    refine dd_oneG 13 (.pick (.tmp 108) (.tmp 110) (.const (.bool false))) (some 111) 7 false (b := (!x_35837)) (by kernel_rfl) (by kernel_rfl) h_35839 (o_pure (B (x_35804.2 != 2)) (ev_pickT h_35840 (by kernel_rfl) (by kernel_rfl)) rfl) ?_
                    refine dd_oneG 14 (.pick (.tmp 105) (.const (.bool true)) (.tmp 111)) (some 112) 2 true (b := (x_35794.2 == 0)) (by kernel_rfl) (by kernel_rfl) h_35836 (o_pure (B (x_35804.2 != 2)) (ev_pickF h_35839 (by kernel_rfl) (by kernel_rfl)) rfl) ?_
                    refine dd_runG 15 16 2 true rfl (b := (x_35794.2 == 0)) (by kernel_rfl) h_35836 (by kernel_rfl) ?_
                    refine ite_both h (fun h_35841 h => ?_) (fun h_35841 h => ?_)
                    · refine dd_skip 16 19 15 false rfl (b := (x_35804.2 != 2)) (by kernel_rfl) h_35841 (by kernel_rfl) ?_
                      refine dd_skipU 19 23 18 true rfl (by kernel_rfl) (by kernel_rfl) ?_
                      refine dd_skip 23 24 15 false rfl (b := (x_35804.2 != 2)) (by kernel_rfl) h_35841 (by kernel_rfl) ?_
                      refine dd_oneG 24 (.pick (.tmp 113) (.const (.bool true)) (.tmp 121)) (some 122) 2 true (b := (x_35794.2 == 0)) (by kernel_rfl) (by kernel_rfl) h_35836 (o_pure (B true) (ev_pickT h_35841 (by kernel_rfl) (by kernel_rfl)) rfl) ?_
                      refine dd_one 25 (.pick (.tmp 100) (.tmp 122) (.const (.bool false))) (some 123) (by kernel_rfl) (o_pure (B true) (ev_pickT h_35836 (by kernel_rfl) (by kernel_rfl)) rfl) ?_
                      refine dd_nil 26 rfl ?_
                      exact hK_35835 _ _ (Option.some.inj h).symm (to_ren [] (leB rfl) (by kernel_rfl) (by kernel_rfl) (renE_of (by kernel_rfl) (by kernel_rfl)) trivial)
                    · refine dd_runG 16 19 15 false rfl (b := (x_35804.2 != 2)) (by kernel_rfl) h_35841 (by kernel_rfl) ?_
                      refine ite_both h (fun h_35842 h => ?_) (fun h_35842 h => ?_)
                      · refine dd_runG 19 21 18 true rfl (b := (x_35804.2 == 0)) (by kernel_rfl) h_35842 (by kernel_rfl) ?_
                        obtain ⟨x_35843, h_35844, h⟩ := bind_some' h
                        refine dd_oneG 21 (.call ⟨.value (.func 18), #[(.tmp 117), (.tmp 118)], #[24, 24]⟩) (some 119) 18 true (b := (x_35804.2 == 0)) (by kernel_rfl) (by kernel_rfl) h_35842 (o_callP (g_estoppelref42_Ratios_ok h_35844) (by kernel_rfl) rfl) ?_
                        refine dd_runG 22 23 18 true rfl (b := (x_35804.2 == 0)) (by kernel_rfl) h_35842 (by kernel_rfl) ?_
                        refine dd_oneG 23 (.pick (.tmp 116) (.tmp 120) (.const (.bool false))) (some 121) 15 false (b := (x_35804.2 != 2)) (by kernel_rfl) (by kernel_rfl) h_35841 (o_pure (B (!x_35843)) (ev_pickT h_35842 (by kernel_rfl) (by kernel_rfl)) rfl) ?_
                        refine dd_oneG 24 (.pick (.tmp 113) (.const (.bool true)) (.tmp 121)) (some 122) 2 true (b := (x_35794.2 == 0)) (by kernel_rfl) (by kernel_rfl) h_35836 (o_pure (B (!x_35843)) (ev_pickF h_35841 (by kernel_rfl) (by kernel_rfl)) rfl) ?_
                        refine dd_one 25 (.pick (.tmp 100) (.tmp 122) (.const (.bool false))) (some 123) (by kernel_rfl) (o_pure (B (!x_35843)) (ev_pickT h_35836 (by kernel_rfl) (by kernel_rfl)) rfl) ?_
                        refine dd_nil 26 rfl ?_
                        exact hK_35835 _ _ (Option.some.inj h).symm (to_ren [] (leB rfl) (by kernel_rfl) (by kernel_rfl) (renE_of (by kernel_rfl) (by kernel_rfl)) trivial)
                      · refine dd_skip 19 23 18 true rfl (b := (x_35804.2 == 0)) (by kernel_rfl) h_35842 (by kernel_rfl) ?_
                        refine dd_oneG 23 (.pick (.tmp 116) (.tmp 120) (.const (.bool false))) (some 121) 15 false (b := (x_35804.2 != 2)) (by kernel_rfl) (by kernel_rfl) h_35841 (o_pure (B false) (ev_pickF h_35842 (by kernel_rfl) (by kernel_rfl)) rfl) ?_
                        refine dd_oneG 24 (.pick (.tmp 113) (.const (.bool true)) (.tmp 121)) (some 122) 2 true (b := (x_35794.2 == 0)) (by kernel_rfl) (by kernel_rfl) h_35836 (o_pure (B false) (ev_pickF h_35841 (by kernel_rfl) (by kernel_rfl)) rfl) ?_
                        refine dd_one 25 (.pick (.tmp 100) (.tmp 122) (.const (.bool false))) (some 123) (by kernel_rfl) (o_pure (B false) (ev_pickT h_35836 (by kernel_rfl) (by kernel_rfl)) rfl) ?_
                        refine dd_nil 26 rfl ?_
                        exact hK_35835 _ _ (Option.some.inj h).symm (to_ren [] (leB rfl) (by kernel_rfl) (by kernel_rfl) (renE_of (by kernel_rfl) (by kernel_rfl)) trivial)
                  · refine dd_skip 11 13 10 true rfl (b := (x_35804.2 != 0)) (by kernel_rfl) h_35840 (by kernel_rfl) ?_
                    refine dd_oneG 13 (.pick (.tmp 108) (.tmp 110) (.const (.bool false))) (some 111) 7 false (b := (!x_35837)) (by kernel_rfl) (by kernel_rfl) h_35839 (o_pure (B false) (ev_pickF h_35840 (by kernel_rfl) (by kernel_rfl)) rfl) ?_
                    refine dd_oneG 14 (.pick (.tmp 105) (.const (.bool true)) (.tmp 111)) (some 112) 2 true (b := (x_35794.2 == 0)) (by kernel_rfl) (by kernel_rfl) h_35836 (o_pure (B false) (ev_pickF h_35839 (by kernel_rfl) (by kernel_rfl)) rfl) ?_
                    refine dd_runG 15 16 2 true rfl (b := (x_35794.2 == 0)) (by kernel_rfl) h_35836 (by kernel_rfl) ?_
                    refine dd_runG 16 19 15 false rfl (b := false) (by kernel_rfl) rfl (by kernel_rfl) ?_
                    refine ite_both h (fun h_35845 h => ?_) (fun h_35845 h => ?_)
                    · refine dd_runG 19 21 18 true rfl (b := (x_35804.2 == 0)) (by kernel_rfl) h_35845 (by kernel_rfl) ?_
                      obtain ⟨x_35846, h_35847, h⟩ := bind_some' h
                      refine dd_oneG 21 (.call ⟨.value (.func 18), #[(.tmp 117), (.tmp 118)], #[24, 24]⟩) (some 119) 18 true (b := (x_35804.2 == 0)) (by kernel_rfl) (by kernel_rfl) h_35845 (o_callP (g_estoppelref42_Ratios_ok h_35847) (by kernel_rfl) rfl) ?_
                      refine dd_runG 22 23 18 true rfl (b := (x_35804.2 == 0)) (by kernel_rfl) h_35845 (by kernel_rfl) ?_
                      refine dd_oneG 23 (.pick (.tmp 116) (.tmp 120) (.const (.bool false))) (some 121) 15 false (b := false) (by kernel_rfl) (by kernel_rfl) rfl (o_pure (B (!x_35846)) (ev_pickT h_35845 (by kernel_rfl) (by kernel_rfl)) rfl) ?_
                      refine dd_runG 24 25 2 true rfl (b := (x_35794.2 == 0)) (by kernel_rfl) h_35836 (by kernel_rfl) ?_
                      refine dd_one 25 (.pick (.tmp 100) (.tmp 122) (.const (.bool false))) (some 123) (by kernel_rfl) (o_pure (B (!x_35846)) (ev_pickT h_35836 (by kernel_rfl) (by kernel_rfl)) rfl) ?_
                      refine dd_nil 26 rfl ?_
                      exact hK_35835 _ _ (Option.some.inj h).symm (to_ren [] (leB rfl) (by kernel_rfl) (by kernel_rfl) (renE_of (by kernel_rfl) (by kernel_rfl)) trivial)
                    · refine dd_skip 19 23 18 true rfl (b := (x_35804.2 == 0)) (by kernel_rfl) h_35845 (by kernel_rfl) ?_
                      refine dd_oneG 23 (.pick (.tmp 116) (.tmp 120) (.const (.bool false))) (some 121) 15 false (b := false) (by kernel_rfl) (by kernel_rfl) rfl (o_pure (B false) (ev_pickF h_35845 (by kernel_rfl) (by kernel_rfl)) rfl) ?_
                      refine dd_runG 24 25 2 true rfl (b := (x_35794.2 == 0)) (by kernel_rfl) h_35836 (by kernel_rfl) ?_
                      refine dd_one 25 (.pick (.tmp 100) (.tmp 122) (.const (.bool false))) (some 123) (by kernel_rfl) (o_pure (B false) (ev_pickT h_35836 (by kernel_rfl) (by kernel_rfl)) rfl) ?_
                      refine dd_nil 26 rfl ?_
                      exact hK_35835 _ _ (Option.some.inj h).symm (to_ren [] (leB rfl) (by kernel_rfl) (by kernel_rfl) (renE_of (by kernel_rfl) (by kernel_rfl)) trivial)
              · refine dd_skip 3 8 2 true rfl (b := (x_35794.2 == 0)) (by kernel_rfl) h_35836 (by kernel_rfl) ?_
                refine dd_skipU 8 11 7 false rfl (by kernel_rfl) (by kernel_rfl) ?_
                refine dd_skipU 11 13 10 true rfl (by kernel_rfl) (by kernel_rfl) ?_
                refine dd_skipU 13 14 7 false rfl (by kernel_rfl) (by kernel_rfl) ?_
                refine dd_skip 14 16 2 true rfl (b := (x_35794.2 == 0)) (by kernel_rfl) h_35836 (by kernel_rfl) ?_
                refine dd_skipU 16 19 15 false rfl (by kernel_rfl) (by kernel_rfl) ?_
                refine dd_skipU 19 23 18 true rfl (by kernel_rfl) (by kernel_rfl) ?_
                refine dd_skipU 23 24 15 false rfl (by kernel_rfl) (by kernel_rfl) ?_
                refine dd_skip 24 25 2 true rfl (b := (x_35794.2 == 0)) (by kernel_rfl) h_35836 (by kernel_rfl) ?_
                refine dd_one 25 (.pick (.tmp 100) (.tmp 122) (.const (.bool false))) (some 123) (by kernel_rfl) (o_pure (B false) (ev_pickF h_35836 (by kernel_rfl) (by kernel_rfl)) rfl) ?_
                refine dd_nil 26 rfl ?_
                exact hK_35835 _ _ (Option.some.inj h).symm (to_ren [] (leB rfl) (by kernel_rfl) (by kernel_rfl) (renE_of (by kernel_rfl) (by kernel_rfl)) trivial)
            · refine w_seq (fun K hK_35849 => ?_)
              refine w_ite h (by kernel_rfl) (fun h_35850 h => ?_) (fun h_35850 h => ?_)
              · refine w_reg ⟨[(4, B false)], [], 0⟩ (by kernel_rfl) (leB rfl) ?_
                refine w_ret ?_
                obtain rfl := ((Option.some.inj h).symm).symm
                exact ret_leaf (.inl rfl) ⟨[(4, B false)], [], 0⟩ (to_ren [] (leB rfl) (by kernel_rfl) (by kernel_rfl) (renE_of (by kernel_rfl) (by kernel_rfl)) trivial) [B false] (by kernel_rfl) (by kernel_rfl) (leB rfl) (by kernel_rfl) trivial
              · refine w_skip ?_
                refine hK_35849 _ ⟨[(0, I a1), (5, B x_35522), (6, sl 2 cs_Ratio x_35531.1), (14, I x_35794.2), (15, sl 4 cs_Debt x_35799.1), (16, I x_35799.2), (19, sl 2 cs_Ratio x_35809.1), (20, I x_35809.2)], [], 0⟩ (to_trim (by kernel_rfl) (leB rfl)) ?_
                refine w_assoc ?_
                refine w_cut h (fun (e_35863 : Bool) => ⟨[(5, B x_35522), (14, I x_35794.2), (16, I x_35799.2), (149, B e_35863)], [], 0⟩) (fun o h h_35864 K hK_35865 => ?_) (fun e_35863 h => ?_)
                · refine w_reg0 ?_
                  refine dd_run 0 3 rfl (by kernel_rfl) ?_
                  refine ite_both h (fun h_35866 h => ?_) (fun h_35866 h => ?_)
                  · refine dd_runG 3 5 2 true rfl (b := (x_35799.2 == 0)) (by kernel_rfl) h_35866 (by kernel_rfl) ?_
                    obtain ⟨x_35867, h_35868, h⟩ := bind_some' h
                    refine dd_oneG 5 (.call ⟨.value (.func 16), #[(.tmp 127), (.tmp 128)], #[3, 22]⟩) (some 129) 2 true (b := (x_35799.2 == 0)) (by kernel_rfl) (by kernel_rfl) h_35866 (o_callP (g_netting_Valid_ok h_35868) (by kernel_rfl) rfl) ?_
                    refine dd_runG 6 8 2 true rfl (b := (x_35799.2 == 0)) (by kernel_rfl) h_35866 (by kernel_rfl) ?_
                    refine ite_both h (fun h_35869 h => ?_) (fun h_35869 h => ?_)
                    · refine dd_skip 8 11 7 false rfl (b := (!x_35867)) (by kernel_rfl) h_35869 (by kernel_rfl) ?_
                      refine dd_skipU 11 13 10 true rfl (by kernel_rfl) (by kernel_rfl) ?_
                      refine dd_skip 13 14 7 false rfl (b := (!x_35867)) (by kernel_rfl) h_35869 (by kernel_rfl) ?_
                      refine dd_oneG 14 (.pick (.tmp 131) (.const (.bool true)) (.tmp 137)) (some 138) 2 true (b := (x_35799.2 == 0)) (by kernel_rfl) (by kernel_rfl) h_35866 (o_pure (B true) (ev_pickT h_35869 (by kernel_rfl) (by kernel_rfl)) rfl) ?_
                      refine dd_runG 15 16 2 true rfl (b := (x_35799.2 == 0)) (by kernel_rfl) h_35866 (by kernel_rfl) ?_
                      refine dd_skip 16 19 15 false rfl (b := true) (by kernel_rfl) rfl (by kernel_rfl) ?_
                      refine dd_skipU 19 23 18 true rfl (by kernel_rfl) (by kernel_rfl) ?_
                      refine dd_skip 23 24 15 false rfl (b := true) (by kernel_rfl) rfl (by kernel_rfl) ?_
                      refine dd_runG 24 25 2 true rfl (b := (x_35799.2 == 0)) (by kernel_rfl) h_35866 (by kernel_rfl) ?_
                      refine dd_one 25 (.pick (.tmp 126) (.tmp 148) (.const (.bool false))) (some 149) (by kernel_rfl) (o_pure (B true) (ev_pickT h_35866 (by kernel_rfl) (by kernel_rfl)) rfl) ?_
                      refine dd_nil 26 rfl ?_
                      exact hK_35865 _ _ (Option.some.inj h).symm (to_ren [] (leB rfl) (by kernel_rfl) (by kernel_rfl) (renE_of (by kernel_rfl) (by kernel_rfl)) trivial)
                    · refine dd_runG 8 11 7 false rfl (b := (!x_35867)) (by kernel_rfl) h_35869 (by kernel_rfl) ?_
                      refine ite_both h (fun h_35870 h => ?_) (fun h_35870 h => ?_)
                      · refine dd_runG 11 13 10 true rfl (b := (x_35809.2 != 0)) (by kernel_rfl) h_35870 (by kernel_rfl) ?_
                        refine dd_oneG 13 (.pick (.tmp 134) (.tmp 136) (.const (.bool false))) (some 137) 7 false (b := (!x_35867)) (by kernel_rfl) (by kernel_rfl) h_35869 (o_pure (B (x_35809.2 != 2)) (ev_pickT h_35870 (by kernel_rfl) (by kernel_rfl)) rfl) ?_
                        refine dd_oneG 14 (.pick (.tmp 131) (.const (.bool true)) (.tmp 137)) (some 138) 2 true (b := (x_35799.2 == 0)) (by kernel_rfl) (by kernel_rfl) h_35866 (o_pure (B (x_35809.2 != 2)) (ev_pickF h_35869 (by kernel_rfl) (by kernel_rfl)) rfl) ?_
                        refine dd_runG 15 16 2 true rfl (b := (x_35799.2 == 0)) (by kernel_rfl) h_35866 (by kernel_rfl) ?_
                        refine ite_both h (fun h_35871 h => ?_) (fun h_35871 h => ?_)
                        · refine dd_skip 16 19 15 false rfl (b := (x_35809.2 != 2)) (by kernel_rfl) h_35871 (by kernel_rfl) ?_
                          refine dd_skipU 19 23 18 true rfl (by kernel_rfl) (by kernel_rfl) ?_
                          refine dd_skip 23 24 15 false rfl (b := (x_35809.2 != 2)) (by kernel_rfl) h_35871 (by kernel_rfl) ?_
                          refine dd_oneG 24 (.pick (.tmp 139) (.const (.bool true)) (.tmp 147)) (some 148) 2 true (b := (x_35799.2 == 0)) (by kernel_rfl) (by kernel_rfl) h_35866 (o_pure (B true) (ev_pickT h_35871 (by kernel_rfl) (by kernel_rfl)) rfl) ?_
                          refine dd_one 25 (.pick (.tmp 126) (.tmp 148) (.const (.bool false))) (some 149) (by kernel_rfl) (o_pure (B true) (ev_pickT h_35866 (by kernel_rfl) (by kernel_rfl)) rfl) ?_
                          refine dd_nil 26 rfl ?_
                          exact hK_35865 _ _ (Option.some.inj h).symm (to_ren [] (leB rfl) (by kernel_rfl) (by kernel_rfl) (renE_of (by kernel_rfl) (by kernel_rfl)) trivial)
                        · refine dd_runG 16 19 15 false rfl (b := (x_35809.2 != 2)) (by kernel_rfl) h_35871 (by kernel_rfl) ?_
                          refine ite_both h (fun h_35872 h => ?_) (fun h_35872 h => ?_)
                          · refine dd_runG 19 21 18 true rfl (b := (x_35809.2 == 0)) (by kernel_rfl) h_35872 (by kernel_rfl) ?_
                            obtain ⟨x_35873, h_35874, h⟩ := bind_some' h
                            refine dd_oneG 21 (.call ⟨.value (.func 18), #[(.tmp 143), (.tmp 144)], #[24, 24]⟩) (some 145) 18 true (b := (x_35809.2 == 0)) (by kernel_rfl) (by kernel_rfl) h_35872 (o_callP (g_estoppelref42_Ratios_ok h_35874) (by kernel_rfl) rfl) ?_
                            refine dd_runG 22 23 18 true rfl (b := (x_35809.2 == 0)) (by kernel_rfl) h_35872 (by kernel_rfl) ?_
                            refine dd_oneG 23 (.pick (.tmp 142) (.tmp 146) (.const (.bool false))) (some 147) 15 false (b := (x_35809.2 != 2)) (by kernel_rfl) (by kernel_rfl) h_35871 (o_pure (B (!x_35873)) (ev_pickT h_35872 (by kernel_rfl) (by kernel_rfl)) rfl) ?_
                            refine dd_oneG 24 (.pick (.tmp 139) (.const (.bool true)) (.tmp 147)) (some 148) 2 true (b := (x_35799.2 == 0)) (by kernel_rfl) (by kernel_rfl) h_35866 (o_pure (B (!x_35873)) (ev_pickF h_35871 (by kernel_rfl) (by kernel_rfl)) rfl) ?_
                            refine dd_one 25 (.pick (.tmp 126) (.tmp 148) (.const (.bool false))) (some 149) (by kernel_rfl) (o_pure (B (!x_35873)) (ev_pickT h_35866 (by kernel_rfl) (by kernel_rfl)) rfl) ?_
                            refine dd_nil 26 rfl ?_
                            exact hK_35865 _ _ (Option.some.inj h).symm (to_ren [] (leB rfl) (by kernel_rfl) (by kernel_rfl) (renE_of (by kernel_rfl) (by kernel_rfl)) trivial)
                          · refine dd_skip 19 23 18 true rfl (b := (x_35809.2 == 0)) (by kernel_rfl) h_35872 (by kernel_rfl) ?_
                            refine dd_oneG 23 (.pick (.tmp 142) (.tmp 146) (.const (.bool false))) (some 147) 15 false (b := (x_35809.2 != 2)) (by kernel_rfl) (by kernel_rfl) h_35871 (o_pure (B false) (ev_pickF h_35872 (by kernel_rfl) (by kernel_rfl)) rfl) ?_
                            refine dd_oneG 24 (.pick (.tmp 139) (.const (.bool true)) (.tmp 147)) (some 148) 2 true (b := (x_35799.2 == 0)) (by kernel_rfl) (by kernel_rfl) h_35866 (o_pure (B false) (ev_pickF h_35871 (by kernel_rfl) (by kernel_rfl)) rfl) ?_
                            refine dd_one 25 (.pick (.tmp 126) (.tmp 148) (.const (.bool false))) (some 149) (by kernel_rfl) (o_pure (B false) (ev_pickT h_35866 (by kernel_rfl) (by kernel_rfl)) rfl) ?_
                            refine dd_nil 26 rfl ?_
                            exact hK_35865 _ _ (Option.some.inj h).symm (to_ren [] (leB rfl) (by kernel_rfl) (by kernel_rfl) (renE_of (by kernel_rfl) (by kernel_rfl)) trivial)
                      · refine dd_skip 11 13 10 true rfl (b := (x_35809.2 != 0)) (by kernel_rfl) h_35870 (by kernel_rfl) ?_
                        refine dd_oneG 13 (.pick (.tmp 134) (.tmp 136) (.const (.bool false))) (some 137) 7 false (b := (!x_35867)) (by kernel_rfl) (by kernel_rfl) h_35869 (o_pure (B false) (ev_pickF h_35870 (by kernel_rfl) (by kernel_rfl)) rfl) ?_
                        refine dd_oneG 14 (.pick (.tmp 131) (.const (.bool true)) (.tmp 137)) (some 138) 2 true (b := (x_35799.2 == 0)) (by kernel_rfl) (by kernel_rfl) h_35866 (o_pure (B false) (ev_pickF h_35869 (by kernel_rfl) (by kernel_rfl)) rfl) ?_
                        refine dd_runG 15 16 2 true rfl (b := (x_35799.2 == 0)) (by kernel_rfl) h_35866 (by kernel_rfl) ?_
                        refine dd_runG 16 19 15 false rfl (b := false) (by kernel_rfl) rfl (by kernel_rfl) ?_
                        refine ite_both h (fun h_35875 h => ?_) (fun h_35875 h => ?_)
                        · refine dd_runG 19 21 18 true rfl (b := (x_35809.2 == 0)) (by kernel_rfl) h_35875 (by kernel_rfl) ?_
                          obtain ⟨x_35876, h_35877, h⟩ := bind_some' h
                          refine dd_oneG 21 (.call ⟨.value (.func 18), #[(.tmp 143), (.tmp 144)], #[24, 24]⟩) (some 145) 18 true (b := (x_35809.2 == 0)) (by kernel_rfl) (by kernel_rfl) h_35875 (o_callP (g_estoppelref42_Ratios_ok h_35877) (by kernel_rfl) rfl) ?_
                          refine dd_runG 22 23 18 true rfl (b := (x_35809.2 == 0)) (by kernel_rfl) h_35875 (by kernel_rfl) ?_
                          refine dd_oneG 23 (.pick (.tmp 142) (.tmp 146) (.const (.bool false))) (some 147) 15 false (b := false) (by kernel_rfl) (by kernel_rfl) rfl (o_pure (B (!x_35876)) (ev_pickT h_35875 (by kernel_rfl) (by kernel_rfl)) rfl) ?_
                          refine dd_runG 24 25 2 true rfl (b := (x_35799.2 == 0)) (by kernel_rfl) h_35866 (by kernel_rfl) ?_
                          refine dd_one 25 (.pick (.tmp 126) (.tmp 148) (.const (.bool false))) (some 149) (by kernel_rfl) (o_pure (B (!x_35876)) (ev_pickT h_35866 (by kernel_rfl) (by kernel_rfl)) rfl) ?_
                          refine dd_nil 26 rfl ?_
                          exact hK_35865 _ _ (Option.some.inj h).symm (to_ren [] (leB rfl) (by kernel_rfl) (by kernel_rfl) (renE_of (by kernel_rfl) (by kernel_rfl)) trivial)
                        · refine dd_skip 19 23 18 true rfl (b := (x_35809.2 == 0)) (by kernel_rfl) h_35875 (by kernel_rfl) ?_
                          refine dd_oneG 23 (.pick (.tmp 142) (.tmp 146) (.const (.bool false))) (some 147) 15 false (b := false) (by kernel_rfl) (by kernel_rfl) rfl (o_pure (B false) (ev_pickF h_35875 (by kernel_rfl) (by kernel_rfl)) rfl) ?_
                          refine dd_runG 24 25 2 true rfl (b := (x_35799.2 == 0)) (by kernel_rfl) h_35866 (by kernel_rfl) ?_
                          refine dd_one 25 (.pick (.tmp 126) (.tmp 148) (.const (.bool false))) (some 149) (by kernel_rfl) (o_pure (B false) (ev_pickT h_35866 (by kernel_rfl) (by kernel_rfl)) rfl) ?_
                          refine dd_nil 26 rfl ?_
                          exact hK_35865 _ _ (Option.some.inj h).symm (to_ren [] (leB rfl) (by kernel_rfl) (by kernel_rfl) (renE_of (by kernel_rfl) (by kernel_rfl)) trivial)
                  · refine dd_skip 3 8 2 true rfl (b := (x_35799.2 == 0)) (by kernel_rfl) h_35866 (by kernel_rfl) ?_
                    refine dd_skipU 8 11 7 false rfl (by kernel_rfl) (by kernel_rfl) ?_
                    refine dd_skipU 11 13 10 true rfl (by kernel_rfl) (by kernel_rfl) ?_
                    refine dd_skipU 13 14 7 false rfl (by kernel_rfl) (by kernel_rfl) ?_
                    refine dd_skip 14 16 2 true rfl (b := (x_35799.2 == 0)) (by kernel_rfl) h_35866 (by kernel_rfl) ?_
                    refine dd_skipU 16 19 15 false rfl (by kernel_rfl) (by kernel_rfl) ?_
                    refine dd_skipU 19 23 18 true rfl (by kernel_rfl) (by kernel_rfl) ?_
                    refine dd_skipU 23 24 15 false rfl (by kernel_rfl) (by kernel_rfl) ?_
                    refine dd_skip 24 25 2 true rfl (b := (x_35799.2 == 0)) (by kernel_rfl) h_35866 (by kernel_rfl) ?_
                    refine dd_one 25 (.pick (.tmp 126) (.tmp 148) (.const (.bool false))) (some 149) (by kernel_rfl) (o_pure (B false) (ev_pickF h_35866 (by kernel_rfl) (by kernel_rfl)) rfl) ?_
                    refine dd_nil 26 rfl ?_
                    exact hK_35865 _ _ (Option.some.inj h).symm (to_ren [] (leB rfl) (by kernel_rfl) (by kernel_rfl) (renE_of (by kernel_rfl) (by kernel_rfl)) trivial)
                · refine w_seq (fun K hK_35879 => ?_)
                  refine w_ite h (by kernel_rfl) (fun h_35880 h => ?_) (fun h_35880 h => ?_)
                  · refine w_reg ⟨[(4, B false)], [], 0⟩ (by kernel_rfl) (leB rfl) ?_
                    refine w_ret ?_
                    obtain rfl := ((Option.some.inj h).symm).symm
                    exact ret_leaf (.inl rfl) ⟨[(4, B false)], [], 0⟩ (to_ren [] (leB rfl) (by kernel_rfl) (by kernel_rfl) (renE_of (by kernel_rfl) (by kernel_rfl)) trivial) [B false] (by kernel_rfl) (by kernel_rfl) (leB rfl) (by kernel_rfl) trivial
                  · refine w_skip ?_
                    refine hK_35879 _ ⟨[(5, B x_35522), (14, I x_35794.2), (16, I x_35799.2)], [], 0⟩ (to_trim (by kernel_rfl) (leB rfl)) ?_
                    refine w_seq (fun K hK_35886 => w_reg0 ?_)
                    refine dd_run 0 2 rfl (by kernel_rfl) ?_
                    refine ite_both h (fun h_35887 h => ?_) (fun h_35887 h => ?_)
                    · refine dd_runG 2 5 1 true rfl (b := x_35522) (by kernel_rfl) h_35887 (by kernel_rfl) ?_
                      refine ite_both h (fun h_35888 h => ?_) (fun h_35888 h => ?_)
                      · refine dd_skip 5 7 4 false rfl (b := (x_35794.2 == 0)) (by kernel_rfl) h_35888 (by kernel_rfl) ?_
                        refine dd_oneG 7 (.pick (.tmp 154) (.const (.bool true)) (.tmp 156)) (some 157) 1 true (b := x_35522) (by kernel_rfl) (by kernel_rfl) h_35887 (o_pure (B true) (ev_pickT h_35888 (by kernel_rfl) (by kernel_rfl)) rfl) ?_
                        refine dd_one 8 (.pick (.tmp 151) (.tmp 157) (.const (.bool false))) (some 158) (by kernel_rfl) (o_pure (B true) (ev_pickT h_35887 (by kernel_rfl) (by kernel_rfl)) rfl) ?_
                        refine dd_run 9 10 rfl (by kernel_rfl) ?_
                        refine dd_runG 10 13 9 true rfl (b := true) (by kernel_rfl) rfl (by kernel_rfl) ?_
                        refine ite_both h (fun h_35889 h => ?_) (fun h_35889 h => ?_)
                        · refine dd_skip 13 15 12 false rfl (b := (x_35799.2 == 0)) (by kernel_rfl) h_35889 (by kernel_rfl) ?_
                          refine dd_oneG 15 (.pick (.tmp 162) (.const (.bool true)) (.tmp 164)) (some 165) 9 true (b := true) (by kernel_rfl) (by kernel_rfl) rfl (o_pure (B true) (ev_pickT h_35889 (by kernel_rfl) (by kernel_rfl)) rfl) ?_
                          refine ops_fin' hK_35886 ⟨[(4, B true)], [], 0⟩ (by kernel_rfl) (leB rfl) ?_
                          refine w_ret ?_
                          obtain rfl := ((Option.some.inj h).symm).symm
                          exact ret_leaf (.inl rfl) ⟨[(4, B true)], [], 0⟩ (to_ren [] (leB rfl) (by kernel_rfl) (by kernel_rfl) (renE_of (by kernel_rfl) (by kernel_rfl)) trivial) [B true] (by kernel_rfl) (by kernel_rfl) (leB rfl) (by kernel_rfl) trivial
                        · refine dd_runG 13 15 12 false rfl (b := (x_35799.2 == 0)) (by kernel_rfl) h_35889 (by kernel_rfl) ?_
                          refine dd_oneG 15 (.pick (.tmp 162) (.const (.bool true)) (.tmp 164)) (some 165) 9 true (b := true) (by kernel_rfl) (by kernel_rfl) rfl (o_pure (B (x_35799.2 == 2)) (ev_pickF h_35889 (by kernel_rfl) (by kernel_rfl)) rfl) ?_
                          refine ops_fin' hK_35886 ⟨[(4, B (x_35799.2 == 2))], [], 0⟩ (by kernel_rfl) (leB rfl) ?_
                          refine w_ret ?_
                          obtain rfl := ((Option.some.inj h).symm).symm
                          exact ret_leaf (.inl rfl) ⟨[(4, B (x_35799.2 == 2))], [], 0⟩ (to_ren [] (leB rfl) (by kernel_rfl) (by kernel_rfl) (renE_of (by kernel_rfl) (by kernel_rfl)) trivial) [B (x_35799.2 == 2)] (by kernel_rfl) (by kernel_rfl) (leB rfl) (by kernel_rfl) trivial
                      · refine dd_runG 5 7 4 false rfl (b := (x_35794.2 == 0)) (by kernel_rfl) h_35888 (by kernel_rfl) ?_
                        refine dd_oneG 7 (.pick (.tmp 154) (.const (.bool true)) (.tmp 156)) (some 157) 1 true (b := x_35522) (by kernel_rfl) (by kernel_rfl) h_35887 (o_pure (B (x_35794.2 == 2)) (ev_pickF h_35888 (by kernel_rfl) (by kernel_rfl)) rfl) ?_
                        refine dd_one 8 (.pick (.tmp 151) (.tmp 157) (.const (.bool false))) (some 158) (by kernel_rfl) (o_pure (B (x_35794.2 == 2)) (ev_pickT h_35887 (by kernel_rfl) (by kernel_rfl)) rfl) ?_
                        refine dd_run 9 10 rfl (by kernel_rfl) ?_
                        refine ite_both h (fun h_35890 h => ?_) (fun h_35890 h => ?_)
                        · refine dd_runG 10 13 9 true rfl (b := (x_35794.2 == 2)) (by kernel_rfl) h_35890 (by kernel_rfl) ?_
                          refine ite_both h (fun h_35891 h => ?_) (fun h_35891 h => ?_)
                          · refine dd_skip 13 15 12 false rfl (b := (x_35799.2 == 0)) (by kernel_rfl) h_35891 (by kernel_rfl) ?_
                            refine dd_oneG 15 (.pick (.tmp 162) (.const (.bool true)) (.tmp 164)) (some 165) 9 true (b := (x_35794.2 == 2)) (by kernel_rfl) (by kernel_rfl) h_35890 (o_pure (B true) (ev_pickT h_35891 (by kernel_rfl) (by kernel_rfl)) rfl) ?_
                            refine dd_one 16 (.pick (.tmp 159) (.tmp 165) (.const (.bool false))) (some 166) (by kernel_rfl) (o_pure (B true) (ev_pickT h_35890 (by kernel_rfl) (by kernel_rfl)) rfl) ?_
                            refine ops_fin' hK_35886 ⟨[(4, B true)], [], 0⟩ (by kernel_rfl) (leB rfl) ?_
                            refine w_ret ?_
                            obtain rfl := ((Option.some.inj h).symm).symm
                            exact ret_leaf (.inl rfl) ⟨[(4, B true)], [], 0⟩ (to_ren [] (leB rfl) (by kernel_rfl) (by kernel_rfl) (renE_of (by kernel_rfl) (by kernel_rfl)) trivial) [B true] (by kernel_rfl) (by kernel_rfl) (leB rfl) (by kernel_rfl) trivial
                          · refine dd_runG 13 15 12 false rfl (b := (x_35799.2 == 0)) (by kernel_rfl) h_35891 (by kernel_rfl) ?_
                            refine dd_oneG 15 (.pick (.tmp 162) (.const (.bool true)) (.tmp 164)) (some 165) 9 true (b := (x_35794.2 == 2)) (by kernel_rfl) (by kernel_rfl) h_35890 (o_pure (B (x_35799.2 == 2)) (ev_pickF h_35891 (by kernel_rfl) (by kernel_rfl)) rfl) ?_
                            refine dd_one 16 (.pick (.tmp 159) (.tmp 165) (.const (.bool false))) (some 166) (by kernel_rfl) (o_pure (B (x_35799.2 == 2)) (ev_pickT h_35890 (by kernel_rfl) (by kernel_rfl)) rfl) ?_
                            refine ops_fin' hK_35886 ⟨[(4, B (x_35799.2 == 2))], [], 0⟩ (by kernel_rfl) (leB rfl) ?_
                            refine w_ret ?_
                            obtain rfl := ((Option.some.inj h).symm).symm
                            exact ret_leaf (.inl rfl) ⟨[(4, B (x_35799.2 == 2))], [], 0⟩ (to_ren [] (leB rfl) (by kernel_rfl) (by kernel_rfl) (renE_of (by kernel_rfl) (by kernel_rfl)) trivial) [B (x_35799.2 == 2)] (by kernel_rfl) (by kernel_rfl) (leB rfl) (by kernel_rfl) trivial
                        · refine dd_skip 10 13 9 true rfl (b := (x_35794.2 == 2)) (by kernel_rfl) h_35890 (by kernel_rfl) ?_
                          refine dd_skipU 13 15 12 false rfl (by kernel_rfl) (by kernel_rfl) ?_
                          refine dd_skip 15 16 9 true rfl (b := (x_35794.2 == 2)) (by kernel_rfl) h_35890 (by kernel_rfl) ?_
                          refine dd_one 16 (.pick (.tmp 159) (.tmp 165) (.const (.bool false))) (some 166) (by kernel_rfl) (o_pure (B false) (ev_pickF h_35890 (by kernel_rfl) (by kernel_rfl)) rfl) ?_
                          refine ops_fin' hK_35886 ⟨[(4, B false)], [], 0⟩ (by kernel_rfl) (leB rfl) ?_
                          refine w_ret ?_
                          obtain rfl := ((Option.some.inj h).symm).symm
                          exact ret_leaf (.inl rfl) ⟨[(4, B false)], [], 0⟩ (to_ren [] (leB rfl) (by kernel_rfl) (by kernel_rfl) (renE_of (by kernel_rfl) (by kernel_rfl)) trivial) [B false] (by kernel_rfl) (by kernel_rfl) (leB rfl) (by kernel_rfl) trivial
                    · refine dd_skip 2 5 1 true rfl (b := x_35522) (by kernel_rfl) h_35887 (by kernel_rfl) ?_
                      refine dd_skipU 5 7 4 false rfl (by kernel_rfl) (by kernel_rfl) ?_
                      refine dd_skip 7 8 1 true rfl (b := x_35522) (by kernel_rfl) h_35887 (by kernel_rfl) ?_
                      refine dd_one 8 (.pick (.tmp 151) (.tmp 157) (.const (.bool false))) (some 158) (by kernel_rfl) (o_pure (B false) (ev_pickF h_35887 (by kernel_rfl) (by kernel_rfl)) rfl) ?_
                      refine dd_run 9 10 rfl (by kernel_rfl) ?_
                      refine dd_skip 10 13 9 true rfl (b := false) (by kernel_rfl) rfl (by kernel_rfl) ?_
                      refine dd_skipU 13 15 12 false rfl (by kernel_rfl) (by kernel_rfl) ?_
                      refine dd_skip 15 16 9 true rfl (b := false) (by kernel_rfl) rfl (by kernel_rfl) ?_
                      refine ops_fin' hK_35886 ⟨[(4, B false)], [], 0⟩ (by kernel_rfl) (leB rfl) ?_
                      refine w_ret ?_
                      obtain rfl := ((Option.some.inj h).symm).symm
                      exact ret_leaf (.inl rfl) ⟨[(4, B false)], [], 0⟩ (to_ren [] (leB rfl) (by kernel_rfl) (by kernel_rfl) (renE_of (by kernel_rfl) (by kernel_rfl)) trivial) [B false] (by kernel_rfl) (by kernel_rfl) (leB rfl) (by kernel_rfl) trivial
end Go.Proofs.Ytgggekjhfdkgkaa.Ab
