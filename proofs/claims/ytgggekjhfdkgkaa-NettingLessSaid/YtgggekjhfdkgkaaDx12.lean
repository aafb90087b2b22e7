/- Functions of the program as plain functions (printed by wip/dec.py). -/
import Derived.Test.YtgggekjhfdkgkaaDx9
import Derived.Test.YtgggekjhfdkgkaaDx11
namespace Go.Proofs.Ytgggekjhfdkgkaa.Ab
open Go Go.RowKit Go.Shelf
/-- estoppel/estoppelref42.Net -/
def g_estoppelref42_Net (a1 : Int) (a2 : List D.Debt) : Option (List D.Debt × Int) :=
  (g_estoppelref42_Positions_own a1 a2).bind (Sum.elim (fun x_30060 =>
  if (x_30060 != 0) = true then
  some ([], x_30060)
  else
  bindF (ρ := Unit) (
  loopO (σ := Unit) (fun s_30148 =>
  if (decide (0 ≤ a1)) = true then
  (g_estoppelref42_extreme [] 1).bind fun x_30169 =>
  (g_estoppelref42_extreme [] (-1)).bind fun x_30174 =>
  none
  else
  some (.inr (.inl ()))) ()) (fun (e_30118 : Unit) =>
  some ([], 0))) (fun x_30177 =>
  if (x_30177.2 != 0) = true then
  some ([], x_30177.2)
  else
  bindF (ρ := List D.Debt) (
  loopO (σ := List D.Ratio × List D.Debt × Int) (fun s_31759 =>
  if (decide (s_31759.2.2 ≤ a1)) = true then
  (g_estoppelref42_extreme_o s_31759.1 1).bind fun x_31924 =>
  (g_estoppelref42_extreme_o s_31759.1 (-1)).bind fun x_31929 =>
  bindF (ρ := List D.Debt × Bool) (
  (getI s_31759.1 x_31924).bind fun x_31949 =>
  if (decide (x_31949.Num ≥ 0)) = true then
  some (.inl (s_31759.2.1, true))
  else
  (getI s_31759.1 x_31929).bind fun x_31956 =>
  some (.inl (s_31759.2.1, (decide (x_31956.Num ≤ 0))))) (fun (e_31944 : List D.Debt × Bool) =>
  if e_31944.2 = true then
  some (.inr (.inr (e_31944.1, 0)))
  else
  (getI s_31759.1 x_31929).bind fun x_31970 =>
  (getI s_31759.1 x_31924).bind fun x_31985 =>
  (g_estoppelref42_Minus x_31985).bind fun x_31987 =>
  (g_estoppelref01_Cmp x_31987 x_31970).bind fun x_31989 =>
  bindF (ρ := List D.Debt × D.Ratio) (
  if (decide (x_31989 < 0)) = true then
  (getI s_31759.1 x_31924).bind fun x_32004 =>
  (g_estoppelref42_Minus x_32004).bind fun x_32006 =>
  some (.inl (e_31944.1, x_32006))
  else
  some (.inl (e_31944.1, x_31970))) (fun (e_31998 : List D.Debt × D.Ratio) =>
  (getI s_31759.1 x_31924).bind fun x_32019 =>
  (g_estoppelref01_Add x_32019 e_31998.2).bind fun x_32021 =>
  (getI s_31759.1 x_31929).bind fun x_32036 =>
  (g_estoppelref42_Minus e_31998.2).bind fun x_32038 =>
  (g_estoppelref01_Add x_32036 x_32038).bind fun x_32040 =>
  bindF (ρ := List D.Debt × Bool) (
  if (x_32021.2 != 0) = true then
  some (.inl (e_31998.1, true))
  else
  some (.inl (e_31998.1, (x_32040.2 != 0)))) (fun (e_32043 : List D.Debt × Bool) =>
  if e_32043.2 = true then
  some (.inr (.inr ([], 2)))
  else
  (getI s_31759.1 x_31924).bind fun x_32059 =>
  (getI (setI s_31759.1 x_31924 x_32021.1) x_31929).bind fun x_32070 =>
  (appO 32 e_32043.1 [(D.Debt.mk x_31924 x_31929 e_31998.2)]).bind fun x_32074 =>
  some (.inl ((setI (setI s_31759.1 x_31924 x_32021.1) x_31929 x_32040.1), x_32074, (IntKind.i64.wrap (s_31759.2.2 + 1)))))))
  else
  some (.inr (.inl s_31759.2.1))) (x_30177.1, [], 0)) (fun (e_31126 : List D.Debt) =>
  some (e_31126, 0))))
set_option maxHeartbeats 4000000 in
theorem g_estoppelref42_Net_ok {a1 : Int} {a2 : List D.Debt} {res : List D.Debt × Int} (h : g_estoppelref42_Net a1 a2 = some res) : SpecK Try.prog [] 15 [I a1, sl 4 cs_Debt a2] [] 0 (.tup [sl 4 cs_Debt res.1, I res.2]) [] 0 := by
  refine ⟨spec_of_wp Try.func15 (by kernel_rfl) rfl Try.ntmps15 (by rw [Try.results15]) (leB rfl) ?_, by kernel_rfl, trivial, by kernel_rfl, trivial, by kernel_rfl⟩
  unfold g_estoppelref42_Net at h
  refine w_reg ⟨[(0, I a1), (1, sl 4 cs_Debt a2)], [], 0⟩ (by kernel_rfl) (leB rfl) ?_
  refine w_seq (fun K hK_30057 => w_reg0 ?_)
  refine dd_run 0 2 rfl (by kernel_rfl) ?_
  obtain ⟨x_30058, h_30059, h⟩ := bind_some' h
  rcases x_30058 with x_30060 | x_30177
  · dsimp only [Sum.elim_inl] at h
    refine dd_one 2 (.call ⟨.value (.func 11), #[(.tmp 18), (.tmp 19)], #[3, 22]⟩) (some 20) (by kernel_rfl) (o_callP (g_estoppelref42_Positions_own_ok1 h_30059) (by kernel_rfl) rfl) ?_
    refine ops_fin' hK_30057 ⟨[(0, I a1), (6, Nl), (7, I x_30060)], [], 0⟩ (by kernel_rfl) (leB rfl) ?_
    refine w_assoc ?_
    refine w_reg ⟨[(0, I a1), (6, Nl), (7, I x_30060), (24, B (x_30060 != 0))], [], 0⟩ (by kernel_rfl) (leB rfl) ?_
    refine w_seq (fun K hK_30062 => ?_)
    refine w_ite h (by kernel_rfl) (fun h_30063 h => ?_) (fun h_30063 h => ?_)
    · refine w_reg ⟨[(4, Nl), (5, I x_30060)], [], 0⟩ (by kernel_rfl) (leB rfl) ?_
      refine w_ret ?_
      obtain rfl := ((Option.some.inj h).symm).symm
      exact ret_leaf (.inl rfl) ⟨[(4, sl 4 cs_Debt []), (5, I x_30060)], [], 0⟩ (to_trans (to_put 4 (leB rfl) (by kernel_rfl) (Sub.nil 4)) (to_ren [] (leB rfl) (by kernel_rfl) (by kernel_rfl) (renE_of (by kernel_rfl) (by kernel_rfl)) trivial)) [sl 4 cs_Debt [], I x_30060] (by kernel_rfl) (by kernel_rfl) (leB rfl) (by kernel_rfl) trivial
    · refine w_skip ?_
      refine hK_30062 _ ⟨[(0, I a1), (6, Nl)], [], 0⟩ (to_trim (by kernel_rfl) (leB rfl)) ?_
      refine w_reg ⟨[(0, I a1), (6, Nl), (8, Nl)], [], 0⟩ (by kernel_rfl) (leB rfl) ?_
      refine w_assoc ?_
      refine w_reg ⟨[(0, I a1), (6, Nl), (8, Nl), (9, I 0)], [], 0⟩ (by kernel_rfl) (leB rfl) ?_
      refine w_cut h (fun (e_30118 : Unit) => ⟨[(8, Nl)], [], 0⟩) (fun o h h_30119 K hK_30120 => ?_) (fun e_30118 h => ?_)
      · refine w_block ?_
        refine w_loopO h (fun (s_30148 : Unit) => ⟨[(0, I a1), (6, Nl), (8, Nl), (9, I 0)], [], 0⟩) (to_ren [] (leB rfl) (by kernel_rfl) (by kernel_rfl) (renE_of (by kernel_rfl) (by kernel_rfl)) trivial) (fun s_30148 o h h_30149 K hK_30150 => ?_)
        · refine w_assoc ?_
          refine w_reg ⟨[(0, I a1), (6, Nl), (8, Nl), (9, I 0), (28, B (decide (0 ≤ a1)))], [], 0⟩ (by kernel_rfl) (leB rfl) ?_
          refine w_seq (fun K hK_30152 => ?_)
          refine w_ite h (by kernel_rfl) (fun h_30153 h => ?_) (fun h_30153 h => ?_)
          · refine w_skip ?_
            refine hK_30152 _ ⟨[(0, I a1), (6, Nl), (8, Nl), (9, I 0)], [], 0⟩ (to_trim (by kernel_rfl) (leB rfl)) ?_
            refine w_seq (fun K hK_30165 => ?_)
            refine w_block ?_
            refine w_seq (fun K hK_30168 => w_reg0 ?_)
            refine dd_run 0 1 rfl (by kernel_rfl) ?_
            obtain ⟨x_30169, h_30170, h⟩ := bind_some' h
            refine dd_one 1 (.call ⟨.value (.func 37), #[(.tmp 31), (.const (.int .i64 (1)))], #[24, 3]⟩) (some 32) (by kernel_rfl) (o_callPS (g_estoppelref42_extreme_ok h_30170) [Nl, I 1] (by kernel_rfl) (.cons (Sub.nil 2) (.cons (Sub.refl _) (.nil))) rfl) ?_
            refine ops_fin' hK_30168 ⟨[(0, I a1), (6, Nl), (8, Nl), (9, I 0), (10, I x_30169)], [], 0⟩ (by kernel_rfl) (leB rfl) ?_
            refine w_seq (fun K hK_30173 => w_reg0 ?_)
            refine dd_run 0 1 rfl (by kernel_rfl) ?_
            obtain ⟨x_30174, h_30175, h⟩ := bind_some' h
            refine dd_one 1 (.call ⟨.value (.func 37), #[(.tmp 33), (.const (.int .i64 (-1)))], #[24, 3]⟩) (some 34) (by kernel_rfl) (o_callPS (g_estoppelref42_extreme_ok h_30175) [Nl, I (-1)] (by kernel_rfl) (.cons (Sub.nil 2) (.cons (Sub.refl _) (.nil))) rfl) ?_
            refine ops_fin' hK_30173 ⟨[(0, I a1), (6, Nl), (8, Nl), (9, I 0), (10, I x_30169), (11, I x_30174)], [], 0⟩ (by kernel_rfl) (leB rfl) ?_
            refine w_assoc ?_
            refine w_seq (fun K hK_30176 => w_reg0 ?_)
            cases h
          · refine w_exit ?_
            exact hK_30120 _ _ (h_30149 _ (Option.some.inj h).symm).symm (to_ren [] (leB rfl) (by kernel_rfl) (by kernel_rfl) (renE_of (by kernel_rfl) (by kernel_rfl)) trivial)
      · refine w_reg ⟨[(4, Nl), (5, I 0)], [], 0⟩ (by kernel_rfl) (leB rfl) ?_
        refine w_ret ?_
        obtain rfl := ((Option.some.inj h).symm).symm
        exact ret_leaf (.inl rfl) ⟨[(4, sl 4 cs_Debt []), (5, I 0)], [], 0⟩ (to_trans (to_put 4 (leB rfl) (by kernel_rfl) (Sub.nil 4)) (to_ren [] (leB rfl) (by kernel_rfl) (by kernel_rfl) (renE_of (by kernel_rfl) (by kernel_rfl)) trivial)) [sl 4 cs_Debt [], I 0] (by kernel_rfl) (by kernel_rfl) (leB rfl) (by kernel_rfl) trivial
  · dsimp only [Sum.elim_inr] at h
    refine dd_one 2 (.call ⟨.value (.func 11), #[(.tmp 18), (.tmp 19)], #[3, 22]⟩) (some 20) (by kernel_rfl) (o_callE [] (g_estoppelref42_Positions_own_ok2 h_30059) (by kernel_rfl) (by kernel_rfl) (by kernel_rfl) rfl) ?_
    refine ops_fin' hK_30057 ⟨[(0, I a1), (6, .own 0 x_30177.1.length), (7, I x_30177.2)], [(0, ⟨34, 2, flat cs_Ratio x_30177.1⟩)], 1⟩ (by kernel_rfl) (leB rfl) ?_
    refine w_assoc ?_
    refine w_reg ⟨[(0, I a1), (6, .own 0 x_30177.1.length), (7, I x_30177.2), (24, B (x_30177.2 != 0))], [(0, ⟨34, 2, flat cs_Ratio x_30177.1⟩)], 1⟩ (by kernel_rfl) (leB rfl) ?_
    refine w_seq (fun K hK_30179 => ?_)
    refine w_ite h (by kernel_rfl) (fun h_30180 h => ?_) (fun h_30180 h => ?_)
    · refine w_reg ⟨[(4, Nl), (5, I x_30177.2)], [(0, ⟨34, 2, flat cs_Ratio x_30177.1⟩)], 1⟩ (by kernel_rfl) (leB rfl) ?_
      refine w_ret ?_
      obtain rfl := ((Option.some.inj h).symm).symm
      exact ret_leaf (.inl rfl) ⟨[(4, sl 4 cs_Debt []), (5, I x_30177.2)], [], 0⟩ (to_trans (to_put 4 (leB rfl) (by kernel_rfl) (Sub.nil 4)) (to_ren [] (leB rfl) (by kernel_rfl) (by kernel_rfl) (renE_of (by kernel_rfl) (by kernel_rfl)) trivial)) [sl 4 cs_Debt [], I x_30177.2] (by kernel_rfl) (by kernel_rfl) (leB rfl) (by kernel_rfl) trivial
    · refine w_skip ?_
      refine hK_30179 _ ⟨[(0, I a1), (6, .own 0 x_30177.1.length)], [(0, ⟨34, 2, flat cs_Ratio x_30177.1⟩)], 1⟩ (to_trim (by kernel_rfl) (leB rfl)) ?_
      refine w_reg ⟨[(0, I a1), (6, .own 0 x_30177.1.length), (8, Nl)], [(0, ⟨34, 2, flat cs_Ratio x_30177.1⟩)], 1⟩ (by kernel_rfl) (leB rfl) ?_
      refine w_assoc ?_
      refine w_reg ⟨[(0, I a1), (6, .own 0 x_30177.1.length), (8, Nl), (9, I 0)], [(0, ⟨34, 2, flat cs_Ratio x_30177.1⟩)], 1⟩ (by kernel_rfl) (leB rfl) ?_
      refine w_cut h (fun (e_31126 : List D.Debt) => ⟨[(8, sl 4 cs_Debt e_31126)], [], 0⟩) (fun o h h_31127 K hK_31128 => ?_) (fun e_31126 h => ?_)
      · refine w_block ?_
        refine w_loopO h (fun (s_31759 : List D.Ratio × List D.Debt × Int) => ⟨[(0, I a1), (6, .own 0 s_31759.1.length), (8, growE 1 s_31759.2.1), (9, I s_31759.2.2)], ((0, ⟨34, 2, flat cs_Ratio s_31759.1⟩) :: (growH 1 ⟨38, 4, flat cs_Debt s_31759.2.1⟩ s_31759.2.1 [])), 2⟩) (to_ren [] (leB rfl) (by kernel_rfl) (by kernel_rfl) (renE_of (by kernel_rfl) (by kernel_rfl)) ⟨rePl (by kernel_rfl) (leB rfl) (flat_all _ (fun _ => rfl) _), trivial⟩) (fun s_31759 o h h_31760 K hK_31761 => ?_)
        · refine w_assoc ?_
          refine w_reg ⟨[(0, I a1), (6, .own 0 s_31759.1.length), (8, growE 1 s_31759.2.1), (9, I s_31759.2.2), (28, B (decide (s_31759.2.2 ≤ a1)))], ((0, ⟨34, 2, flat cs_Ratio s_31759.1⟩) :: (growH 1 ⟨38, 4, flat cs_Debt s_31759.2.1⟩ s_31759.2.1 [])), 2⟩ (by kernel_rfl) (leB rfl) ?_
          refine w_seq (fun K hK_31763 => ?_)
          refine w_ite h (by kernel_rfl) (fun h_31764 h => ?_) (fun h_31764 h => ?_)
          · refine w_skip ?_
            refine hK_31763 _ ⟨[(0, I a1), (6, .own 0 s_31759.1.length), (8, growE 1 s_31759.2.1), (9, I s_31759.2.2)], ((0, ⟨34, 2, flat cs_Ratio s_31759.1⟩) :: (growH 1 ⟨38, 4, flat cs_Debt s_31759.2.1⟩ s_31759.2.1 [])), 2⟩ (to_trim (by kernel_rfl) (leB rfl)) ?_
            refine w_seq (fun K hK_31920 => ?_)
            refine w_block ?_
            refine w_seq (fun K hK_31923 => w_reg0 ?_)
            refine dd_run 0 1 rfl (by kernel_rfl) ?_
            obtain ⟨x_31924, h_31925, h⟩ := bind_some' h
            refine dd_one 1 (.call ⟨.value (.func 37), #[(.tmp 31), (.const (.int .i64 (1)))], #[24, 3]⟩) (some 32) (by kernel_rfl) (o_callG [0] [(0, ⟨34, 2, flat cs_Ratio s_31759.1⟩)] (growH 1 ⟨38, 4, flat cs_Debt s_31759.2.1⟩ s_31759.2.1 []) (g_estoppelref42_extreme_o_ok h_31925) [.own 0 s_31759.1.length, I 1] (by kernel_rfl) (SubL.of_eq (by kernel_rfl)) (by kernel_rfl) (by kernel_rfl) (by kernel_rfl) (free_grow (by kernel_rfl) (free_nil _)) rfl) ?_
            refine ops_fin' hK_31923 ⟨[(0, I a1), (6, .own 0 s_31759.1.length), (8, growE 1 s_31759.2.1), (9, I s_31759.2.2), (10, I x_31924)], ((0, ⟨34, 2, flat cs_Ratio s_31759.1⟩) :: (growH 1 ⟨38, 4, flat cs_Debt s_31759.2.1⟩ s_31759.2.1 [])), 2⟩ (by kernel_rfl) (leB rfl) ?_
            refine w_seq (fun K hK_31928 => w_reg0 ?_)
            refine dd_run 0 1 rfl (by kernel_rfl) ?_
            obtain ⟨x_31929, h_31930, h⟩ := bind_some' h
            refine dd_one 1 (.call ⟨.value (.func 37), #[(.tmp 33), (.const (.int .i64 (-1)))], #[24, 3]⟩) (some 34) (by kernel_rfl) (o_callG [0] [(0, ⟨34, 2, flat cs_Ratio s_31759.1⟩)] (growH 1 ⟨38, 4, flat cs_Debt s_31759.2.1⟩ s_31759.2.1 []) (g_estoppelref42_extreme_o_ok h_31930) [.own 0 s_31759.1.length, I (-1)] (by kernel_rfl) (SubL.of_eq (by kernel_rfl)) (by kernel_rfl) (by kernel_rfl) (by kernel_rfl) (free_grow (by kernel_rfl) (free_nil _)) rfl) ?_
            refine ops_fin' hK_31928 ⟨[(0, I a1), (6, .own 0 s_31759.1.length), (8, growE 1 s_31759.2.1), (9, I s_31759.2.2), (10, I x_31924), (11, I x_31929)], ((0, ⟨34, 2, flat cs_Ratio s_31759.1⟩) :: (growH 1 ⟨38, 4, flat cs_Debt s_31759.2.1⟩ s_31759.2.1 [])), 2⟩ (by kernel_rfl) (leB rfl) ?_
            refine w_assoc ?_
            refine w_cut h (fun (e_31944 : List D.Debt × Bool) => ⟨[(0, I a1), (6, .own 0 s_31759.1.length), (8, growE 1 e_31944.1), (9, I s_31759.2.2), (10, I x_31924), (11, I x_31929), (48, B e_31944.2)], ((0, ⟨34, 2, flat cs_Ratio s_31759.1⟩) :: (growH 1 ⟨38, 4, flat cs_Debt e_31944.1⟩ e_31944.1 [])), 2⟩) (fun o h h_31945 K hK_31946 => ?_) (fun e_31944 h => ?_)
            · refine w_reg0 ?_
              refine dd_run 0 2 rfl (by kernel_rfl) ?_
              obtain ⟨x_31949, h_31950, h⟩ := bind_some' h
              refine dd_one 2 (.indexAddr 24 (.tmp 35) (.tmp 36)) (some 37) (by kernel_rfl) (o_pure (.ptr 0 (x_31924.toNat * 2)) (ev_idx_own (N := s_31759.1.length) (e := 34) (k := 2) (ik := .i64) h_31950 rfl (by kernel_rfl) (by kernel_rfl) (by kernel_rfl) (by kernel_rfl)) rfl) ?_
              refine dd_run 3 4 rfl (by kernel_rfl) ?_
              refine dd_one 4 (.load 3 (.tmp 38)) (some 39) (by kernel_rfl) (o_pure (I x_31949.Num) (ev_load_row (o := x_31924.toNat * 2) (b := 0) (i := x_31924.toNat) (j := 0) (k := 2) (c := cs_Ratio) (sz := 2) (ty := 34) (fun _ => rfl) (getI_some h_31950).2 rfl (by kernel_rfl) (by kernel_rfl) (by kernel_rfl)) rfl) ?_
              refine dd_run 5 7 rfl (by kernel_rfl) ?_
              refine ite_both h (fun h_31951 h => ?_) (fun h_31951 h => ?_)
              · refine dd_skip 7 13 6 false rfl (b := (decide (x_31949.Num ≥ 0))) (by kernel_rfl) h_31951 (by kernel_rfl) ?_
                refine dd_one 13 (.pick (.tmp 41) (.const (.bool true)) (.tmp 47)) (some 48) (by kernel_rfl) (o_pure (B true) (ev_pickT h_31951 (by kernel_rfl) (by kernel_rfl)) rfl) ?_
                refine dd_nil 14 rfl ?_
                refine hK_31946 _ _ (Option.some.inj h).symm ?_
                cases s_31759.2.1 with
                | nil =>
                  exact to_ren [] (leB rfl) (by kernel_rfl) (by kernel_rfl) (renE_of (by kernel_rfl) (by kernel_rfl)) ⟨rePl (by kernel_rfl) (leB rfl) (flat_all _ (fun _ => rfl) _), trivial⟩
                | cons y_ ys_ =>
                  exact to_ren [] (leB rfl) (by kernel_rfl) (by kernel_rfl) (renE_of (by kernel_rfl) (by kernel_rfl)) ⟨rePl (by kernel_rfl) (leB rfl) (flat_all _ (fun _ => rfl) _), ⟨rePl (by kernel_rfl) (leB rfl) (flat_all _ (fun _ => rfl) _), trivial⟩⟩
              · refine dd_runG 7 9 6 false rfl (b := (decide (x_31949.Num ≥ 0))) (by kernel_rfl) h_31951 (by kernel_rfl) ?_
                obtain ⟨x_31956, h_31957, h⟩ := bind_some' h
                refine dd_oneG 9 (.indexAddr 24 (.tmp 42) (.tmp 43)) (some 44) 6 false (b := (decide (x_31949.Num ≥ 0))) (by kernel_rfl) (by kernel_rfl) h_31951 (o_pure (.ptr 0 (x_31929.toNat * 2)) (ev_idx_own (N := s_31759.1.length) (e := 34) (k := 2) (ik := .i64) h_31957 rfl (by kernel_rfl) (by kernel_rfl) (by kernel_rfl) (by kernel_rfl)) rfl) ?_
                refine dd_runG 10 11 6 false rfl (b := (decide (x_31949.Num ≥ 0))) (by kernel_rfl) h_31951 (by kernel_rfl) ?_
                refine dd_oneG 11 (.load 3 (.tmp 45)) (some 46) 6 false (b := (decide (x_31949.Num ≥ 0))) (by kernel_rfl) (by kernel_rfl) h_31951 (o_pure (I x_31956.Num) (ev_load_row (o := x_31929.toNat * 2) (b := 0) (i := x_31929.toNat) (j := 0) (k := 2) (c := cs_Ratio) (sz := 2) (ty := 34) (fun _ => rfl) (getI_some h_31957).2 rfl (by kernel_rfl) (by kernel_rfl) (by kernel_rfl)) rfl) ?_
                refine dd_runG 12 13 6 false rfl (b := (decide (x_31949.Num ≥ 0))) (by kernel_rfl) h_31951 (by kernel_rfl) ?_
                refine dd_one 13 (.pick (.tmp 41) (.const (.bool true)) (.tmp 47)) (some 48) (by kernel_rfl) (o_pure (B (decide (x_31956.Num ≤ 0))) (ev_pickF h_31951 (by kernel_rfl) (by kernel_rfl)) rfl) ?_
                refine dd_nil 14 rfl ?_
                refine hK_31946 _ _ (Option.some.inj h).symm ?_
                cases s_31759.2.1 with
                | nil =>
                  exact to_ren [] (leB rfl) (by kernel_rfl) (by kernel_rfl) (renE_of (by kernel_rfl) (by kernel_rfl)) ⟨rePl (by kernel_rfl) (leB rfl) (flat_all _ (fun _ => rfl) _), trivial⟩
                | cons y_ ys_ =>
                  exact to_ren [] (leB rfl) (by kernel_rfl) (by kernel_rfl) (renE_of (by kernel_rfl) (by kernel_rfl)) ⟨rePl (by kernel_rfl) (leB rfl) (flat_all _ (fun _ => rfl) _), ⟨rePl (by kernel_rfl) (leB rfl) (flat_all _ (fun _ => rfl) _), trivial⟩⟩
            · refine w_seq (fun K hK_31959 => ?_)
              refine w_ite h (by kernel_rfl) (fun h_31960 h => ?_) (fun h_31960 h => ?_)
              · refine w_reg ⟨[(4, growE 1 e_31944.1), (5, I 0)], ((0, ⟨34, 2, flat cs_Ratio s_31759.1⟩) :: (growH 1 ⟨38, 4, flat cs_Debt e_31944.1⟩ e_31944.1 [])), 2⟩ (by kernel_rfl) (leB rfl) ?_
                refine w_ret ?_
                obtain rfl := ((h_31127 _ (h_31760 _ (Option.some.inj h).symm).symm).symm).symm
                refine ret_leaf (.inl rfl) ⟨[(4, sl 4 cs_Debt e_31944.1), (5, I 0)], [], 0⟩ ?_ [sl 4 cs_Debt e_31944.1, I 0] (by kernel_rfl) (by kernel_rfl) (leB rfl) (by kernel_rfl) trivial
                cases e_31944.1 with
                | nil =>
                  exact to_trans (to_put 4 (leB rfl) (by kernel_rfl) (Sub.nil 4)) (to_ren [] (leB rfl) (by kernel_rfl) (by kernel_rfl) (renE_of (by kernel_rfl) (by kernel_rfl)) trivial)
                | cons y_ ys_ =>
                  exact to_trans (to_freeze 4 1 (y_ :: ys_).length ⟨38, 4, flat cs_Debt (y_ :: ys_)⟩ ((y_ :: ys_).map cs_Debt) (leB rfl) (by kernel_rfl) (by kernel_rfl) (leB rfl) (by simp [setI]) rfl (fun e he => by obtain ⟨x, _, rfl⟩ := List.mem_map.1 he; rfl) (fun e he a ha => by obtain ⟨x, _, rfl⟩ := List.mem_map.1 he; exact all_and (fun _ => rfl) (fun _ => rfl) x a ha)) (to_ren [] (leB rfl) (by kernel_rfl) (by kernel_rfl) (renE_of (by kernel_rfl) (by kernel_rfl)) trivial)
              · refine w_skip ?_
                refine hK_31959 _ ⟨[(0, I a1), (6, .own 0 s_31759.1.length), (8, growE 1 e_31944.1), (9, I s_31759.2.2), (10, I x_31924), (11, I x_31929)], ((0, ⟨34, 2, flat cs_Ratio s_31759.1⟩) :: (growH 1 ⟨38, 4, flat cs_Debt e_31944.1⟩ e_31944.1 [])), 2⟩ (to_trim (by kernel_rfl) (leB rfl)) ?_
                refine w_seq (fun K hK_31967 => w_reg0 ?_)
                refine dd_run 0 2 rfl (by kernel_rfl) ?_
                obtain ⟨x_31970, h_31971, h⟩ := bind_some' h
                refine dd_one 2 (.indexAddr 24 (.tmp 50) (.tmp 51)) (some 52) (by kernel_rfl) (o_pure (.ptr 0 (x_31929.toNat * 2)) (ev_idx_own (N := s_31759.1.length) (e := 34) (k := 2) (ik := .i64) h_31971 rfl (by kernel_rfl) (by kernel_rfl) (by kernel_rfl) (by kernel_rfl)) rfl) ?_
                refine dd_one 3 (.load 34 (.tmp 52)) (some 53) (by kernel_rfl) (o_pure (.agg (cs_Ratio x_31970)) (ev_load_row (o := x_31929.toNat * 2) (b := 0) (i := x_31929.toNat) (j := 0) (k := 2) (c := cs_Ratio) (sz := 2) (ty := 34) (fun _ => rfl) (getI_some h_31971).2 rfl (by kernel_rfl) (by kernel_rfl) (by kernel_rfl)) rfl) ?_
                refine ops_fin' hK_31967 ⟨[(0, I a1), (6, .own 0 s_31759.1.length), (8, growE 1 e_31944.1), (9, I s_31759.2.2), (10, I x_31924), (11, I x_31929), (12, .ptr 2 0)], ((2, ⟨34, 0, (cs_Ratio x_31970)⟩) :: ((0, ⟨34, 2, flat cs_Ratio s_31759.1⟩) :: (growH 1 ⟨38, 4, flat cs_Debt e_31944.1⟩ e_31944.1 []))), 3⟩ (by kernel_rfl) (leB rfl) ?_
                refine w_assoc ?_
                refine w_seq (fun K hK_31982 => w_mix0 (by kernel_rfl) (by kernel_rfl) ?_)
                refine mm_run 0 2 rfl (by kernel_rfl) ?_
                obtain ⟨x_31985, h_31986, h⟩ := bind_some' h
                refine mm_one 2 (.indexAddr 24 (.tmp 54) (.tmp 55)) (some 56) (by kernel_rfl) (by kernel_rfl) (oH_pure (.ptr 0 (x_31924.toNat * 2)) (ev_idx_own (N := s_31759.1.length) (e := 34) (k := 2) (ik := .i64) h_31986 rfl (by kernel_rfl) (by kernel_rfl) (by kernel_rfl) (by kernel_rfl)) rfl) ?_
                refine mm_one 3 (.load 34 (.tmp 56)) (some 57) (by kernel_rfl) (by kernel_rfl) (oH_pure (.agg (cs_Ratio x_31985)) (ev_load_row (o := x_31924.toNat * 2) (b := 0) (i := x_31924.toNat) (j := 0) (k := 2) (c := cs_Ratio) (sz := 2) (ty := 34) (fun _ => rfl) (getI_some h_31986).2 rfl (by kernel_rfl) (by kernel_rfl) (by kernel_rfl)) rfl) ?_
                obtain ⟨x_31987, h_31988, h⟩ := bind_some' h
                refine mm_one 4 (.call ⟨.value (.func 32), #[(.tmp 57)], #[34]⟩) (some 58) (by kernel_rfl) (by kernel_rfl) (oH_callP (g_estoppelref42_Minus_ok h_31988) (by kernel_rfl) rfl) ?_
                refine mm_run 5 6 rfl (by kernel_rfl) ?_
                obtain ⟨x_31989, h_31990, h⟩ := bind_some' h
                refine mm_one 6 (.call ⟨.value (.func 38), #[(.tmp 58), (.tmp 59)], #[34, 34]⟩) (some 60) (by kernel_rfl) (by kernel_rfl) (oH_callP (g_estoppelref01_Cmp_ok h_31990) (by kernel_rfl) rfl) ?_
                refine mix_fin' hK_31982 ⟨[(0, I a1), (6, .own 0 s_31759.1.length), (8, growE 1 e_31944.1), (9, I s_31759.2.2), (10, I x_31924), (11, I x_31929), (12, .ptr 2 0), (61, B (decide (x_31989 < 0)))], ((2, ⟨34, 0, (cs_Ratio x_31970)⟩) :: ((0, ⟨34, 2, flat cs_Ratio s_31759.1⟩) :: (growH 1 ⟨38, 4, flat cs_Debt e_31944.1⟩ e_31944.1 []))), 3⟩ (by kernel_rfl) (leB rfl) ?_
                refine w_cut h (fun (e_31998 : List D.Debt × D.Ratio) => ⟨[(0, I a1), (6, .own 0 s_31759.1.length), (8, growE 1 e_31998.1), (9, I s_31759.2.2), (10, I x_31924), (11, I x_31929), (12, .ptr 2 0)], ((0, ⟨34, 2, flat cs_Ratio s_31759.1⟩) :: ((2, ⟨34, 0, (cs_Ratio e_31998.2)⟩) :: (growH 1 ⟨38, 4, flat cs_Debt e_31998.1⟩ e_31998.1 []))), 3⟩) (fun o h h_31999 K hK_32000 => ?_) (fun e_31998 h => ?_)
                · refine w_ite h (by kernel_rfl) (fun h_32001 h => ?_) (fun h_32001 h => ?_)
                  · refine w_reg0 ?_
                    refine dd_run 0 2 rfl (by kernel_rfl) ?_
                    obtain ⟨x_32004, h_32005, h⟩ := bind_some' h
                    refine dd_one 2 (.indexAddr 24 (.tmp 62) (.tmp 63)) (some 64) (by kernel_rfl) (o_pure (.ptr 0 (x_31924.toNat * 2)) (ev_idx_own (N := s_31759.1.length) (e := 34) (k := 2) (ik := .i64) h_32005 rfl (by kernel_rfl) (by kernel_rfl) (by kernel_rfl) (by kernel_rfl)) rfl) ?_
                    refine dd_one 3 (.load 34 (.tmp 64)) (some 65) (by kernel_rfl) (o_pure (.agg (cs_Ratio x_32004)) (ev_load_row (o := x_31924.toNat * 2) (b := 0) (i := x_31924.toNat) (j := 0) (k := 2) (c := cs_Ratio) (sz := 2) (ty := 34) (fun _ => rfl) (getI_some h_32005).2 rfl (by kernel_rfl) (by kernel_rfl) (by kernel_rfl)) rfl) ?_
                    obtain ⟨x_32006, h_32007, h⟩ := bind_some' h
                    refine dd_one 4 (.call ⟨.value (.func 32), #[(.tmp 65)], #[34]⟩) (some 66) (by kernel_rfl) (o_callP (g_estoppelref42_Minus_ok h_32007) (by kernel_rfl) rfl) ?_
                    refine dd_run 5 6 rfl (by kernel_rfl) ?_
                    refine dd_nil 6 rfl ?_
                    refine hK_32000 _ _ (Option.some.inj h).symm ?_
                    cases e_31944.1 with
                    | nil =>
                      exact to_ren [] (leB rfl) (by kernel_rfl) (by kernel_rfl) (renE_of (by kernel_rfl) (by kernel_rfl)) ⟨rePl (by kernel_rfl) (leB rfl) (flat_all _ (fun _ => rfl) _), ⟨reRn (by kernel_rfl) (leB rfl) (by kernel_rfl), trivial⟩⟩
                    | cons y_ ys_ =>
                      exact to_ren [] (leB rfl) (by kernel_rfl) (by kernel_rfl) (renE_of (by kernel_rfl) (by kernel_rfl)) ⟨rePl (by kernel_rfl) (leB rfl) (flat_all _ (fun _ => rfl) _), ⟨reRn (by kernel_rfl) (leB rfl) (by kernel_rfl), ⟨rePl (by kernel_rfl) (leB rfl) (flat_all _ (fun _ => rfl) _), trivial⟩⟩⟩
                  · refine w_skip ?_
                    refine hK_32000 _ _ (Option.some.inj h).symm ?_
                    cases e_31944.1 with
                    | nil =>
                      exact to_ren [] (leB rfl) (by kernel_rfl) (by kernel_rfl) (renE_of (by kernel_rfl) (by kernel_rfl)) ⟨rePl (by kernel_rfl) (leB rfl) (flat_all _ (fun _ => rfl) _), ⟨reRn (by kernel_rfl) (leB rfl) (by kernel_rfl), trivial⟩⟩
                    | cons y_ ys_ =>
                      exact to_ren [] (leB rfl) (by kernel_rfl) (by kernel_rfl) (renE_of (by kernel_rfl) (by kernel_rfl)) ⟨rePl (by kernel_rfl) (leB rfl) (flat_all _ (fun _ => rfl) _), ⟨reRn (by kernel_rfl) (leB rfl) (by kernel_rfl), ⟨rePl (by kernel_rfl) (leB rfl) (flat_all _ (fun _ => rfl) _), trivial⟩⟩⟩
                · refine w_seq (fun K hK_32016 => w_mix0 (by kernel_rfl) (by kernel_rfl) ?_)
                  refine mm_run 0 2 rfl (by kernel_rfl) ?_
                  obtain ⟨x_32019, h_32020, h⟩ := bind_some' h
                  refine mm_one 2 (.indexAddr 24 (.tmp 68) (.tmp 69)) (some 70) (by kernel_rfl) (by kernel_rfl) (oH_pure (.ptr 0 (x_31924.toNat * 2)) (ev_idx_own (N := s_31759.1.length) (e := 34) (k := 2) (ik := .i64) h_32020 rfl (by kernel_rfl) (by kernel_rfl) (by kernel_rfl) (by kernel_rfl)) rfl) ?_
                  refine mm_one 3 (.load 34 (.tmp 70)) (some 71) (by kernel_rfl) (by kernel_rfl) (oH_pure (.agg (cs_Ratio x_32019)) (ev_load_row (o := x_31924.toNat * 2) (b := 0) (i := x_31924.toNat) (j := 0) (k := 2) (c := cs_Ratio) (sz := 2) (ty := 34) (fun _ => rfl) (getI_some h_32020).2 rfl (by kernel_rfl) (by kernel_rfl) (by kernel_rfl)) rfl) ?_
                  refine mm_run 4 5 rfl (by kernel_rfl) ?_
                  obtain ⟨x_32021, h_32022, h⟩ := bind_some' h
                  refine mm_one 5 (.call ⟨.value (.func 39), #[(.tmp 71), (.tmp 72)], #[34, 34]⟩) (some 73) (by kernel_rfl) (by kernel_rfl) (oH_callP (g_estoppelref01_Add_ok h_32022) (by kernel_rfl) rfl) ?_
                  refine mm_run 6 9 rfl (by kernel_rfl) ?_
                  refine mm_ops 9 (.alloc 34) (some 13) none (by kernel_rfl) (by kernel_rfl) ?_
                  refine ops_fin' hK_32016 ⟨[(0, I a1), (6, .own 0 s_31759.1.length), (8, growE 1 e_31998.1), (9, I s_31759.2.2), (10, I x_31924), (11, I x_31929), (12, .ptr 2 0), (13, .ptr 3 0), (14, I x_32021.2)], ((3, ⟨34, 0, (cs_Ratio x_32021.1)⟩) :: ((0, ⟨34, 2, flat cs_Ratio s_31759.1⟩) :: ((2, ⟨34, 0, (cs_Ratio e_31998.2)⟩) :: (growH 1 ⟨38, 4, flat cs_Debt e_31998.1⟩ e_31998.1 [])))), 4⟩ (by kernel_rfl) (leB rfl) ?_
                  refine w_seq (fun K hK_32033 => w_mix0 (by kernel_rfl) (by kernel_rfl) ?_)
                  refine mm_run 0 2 rfl (by kernel_rfl) ?_
                  obtain ⟨x_32036, h_32037, h⟩ := bind_some' h
                  refine mm_one 2 (.indexAddr 24 (.tmp 77) (.tmp 78)) (some 79) (by kernel_rfl) (by kernel_rfl) (oH_pure (.ptr 0 (x_31929.toNat * 2)) (ev_idx_own (N := s_31759.1.length) (e := 34) (k := 2) (ik := .i64) h_32037 rfl (by kernel_rfl) (by kernel_rfl) (by kernel_rfl) (by kernel_rfl)) rfl) ?_
                  refine mm_one 3 (.load 34 (.tmp 79)) (some 80) (by kernel_rfl) (by kernel_rfl) (oH_pure (.agg (cs_Ratio x_32036)) (ev_load_row (o := x_31929.toNat * 2) (b := 0) (i := x_31929.toNat) (j := 0) (k := 2) (c := cs_Ratio) (sz := 2) (ty := 34) (fun _ => rfl) (getI_some h_32037).2 rfl (by kernel_rfl) (by kernel_rfl) (by kernel_rfl)) rfl) ?_
                  refine mm_run 4 5 rfl (by kernel_rfl) ?_
                  obtain ⟨x_32038, h_32039, h⟩ := bind_some' h
                  refine mm_one 5 (.call ⟨.value (.func 32), #[(.tmp 81)], #[34]⟩) (some 82) (by kernel_rfl) (by kernel_rfl) (oH_callP (g_estoppelref42_Minus_ok h_32039) (by kernel_rfl) rfl) ?_
                  obtain ⟨x_32040, h_32041, h⟩ := bind_some' h
                  refine mm_one 6 (.call ⟨.value (.func 39), #[(.tmp 80), (.tmp 82)], #[34, 34]⟩) (some 83) (by kernel_rfl) (by kernel_rfl) (oH_callP (g_estoppelref01_Add_ok h_32041) (by kernel_rfl) rfl) ?_
                  refine mm_run 7 10 rfl (by kernel_rfl) ?_
                  refine mm_ops 10 (.alloc 34) (some 15) none (by kernel_rfl) (by kernel_rfl) ?_
                  refine ops_fin' hK_32033 ⟨[(0, I a1), (6, .own 0 s_31759.1.length), (8, growE 1 e_31998.1), (9, I s_31759.2.2), (10, I x_31924), (11, I x_31929), (12, .ptr 2 0), (13, .ptr 3 0), (14, I x_32021.2), (15, .ptr 4 0), (16, I x_32040.2)], ((4, ⟨34, 0, (cs_Ratio x_32040.1)⟩) :: ((3, ⟨34, 0, (cs_Ratio x_32021.1)⟩) :: ((0, ⟨34, 2, flat cs_Ratio s_31759.1⟩) :: ((2, ⟨34, 0, (cs_Ratio e_31998.2)⟩) :: (growH 1 ⟨38, 4, flat cs_Debt e_31998.1⟩ e_31998.1 []))))), 5⟩ (by kernel_rfl) (leB rfl) ?_
                  refine w_assoc ?_
                  refine w_cut h (fun (e_32043 : List D.Debt × Bool) => ⟨[(0, I a1), (6, .own 0 s_31759.1.length), (8, growE 1 e_32043.1), (9, I s_31759.2.2), (10, I x_31924), (11, I x_31929), (12, .ptr 2 0), (13, .ptr 3 0), (15, .ptr 4 0), (91, B e_32043.2)], ((0, ⟨34, 2, flat cs_Ratio s_31759.1⟩) :: ((2, ⟨34, 0, (cs_Ratio e_31998.2)⟩) :: ((3, ⟨34, 0, (cs_Ratio x_32021.1)⟩) :: ((4, ⟨34, 0, (cs_Ratio x_32040.1)⟩) :: (growH 1 ⟨38, 4, flat cs_Debt e_32043.1⟩ e_32043.1 []))))), 5⟩) (fun o h h_32044 K hK_32045 => ?_) (fun e_32043 h => ?_)
                  · refine w_reg0 ?_
                    refine dd_run 0 3 rfl (by kernel_rfl) ?_
                    refine ite_both h (fun h_32046 h => ?_) (fun h_32046 h => ?_)
                    · refine dd_skip 3 5 2 false rfl (b := (x_32021.2 != 0)) (by kernel_rfl) h_32046 (by kernel_rfl) ?_
                      refine dd_one 5 (.pick (.tmp 88) (.const (.bool true)) (.tmp 90)) (some 91) (by kernel_rfl) (o_pure (B true) (ev_pickT h_32046 (by kernel_rfl) (by kernel_rfl)) rfl) ?_
                      refine dd_nil 6 rfl ?_
                      refine hK_32045 _ _ (Option.some.inj h).symm ?_
                      cases e_31998.1 with
                      | nil =>
                        exact to_ren [] (leB rfl) (by kernel_rfl) (by kernel_rfl) (renE_of (by kernel_rfl) (by kernel_rfl)) ⟨rePl (by kernel_rfl) (leB rfl) (flat_all _ (fun _ => rfl) _), ⟨reRn (by kernel_rfl) (leB rfl) (by kernel_rfl), ⟨reRn (by kernel_rfl) (leB rfl) (by kernel_rfl), ⟨reRn (by kernel_rfl) (leB rfl) (by kernel_rfl), trivial⟩⟩⟩⟩
                      | cons y_ ys_ =>
                        exact to_ren [] (leB rfl) (by kernel_rfl) (by kernel_rfl) (renE_of (by kernel_rfl) (by kernel_rfl)) ⟨rePl (by kernel_rfl) (leB rfl) (flat_all _ (fun _ => rfl) _), ⟨reRn (by kernel_rfl) (leB rfl) (by kernel_rfl), ⟨reRn (by kernel_rfl) (leB rfl) (by kernel_rfl), ⟨reRn (by kernel_rfl) (leB rfl) (by kernel_rfl), ⟨rePl (by kernel_rfl) (leB rfl) (flat_all _ (fun _ => rfl) _), trivial⟩⟩⟩⟩⟩
                    · refine dd_runG 3 5 2 false rfl (b := (x_32021.2 != 0)) (by kernel_rfl) h_32046 (by kernel_rfl) ?_
                      refine dd_one 5 (.pick (.tmp 88) (.const (.bool true)) (.tmp 90)) (some 91) (by kernel_rfl) (o_pure (B (x_32040.2 != 0)) (ev_pickF h_32046 (by kernel_rfl) (by kernel_rfl)) rfl) ?_
                      refine dd_nil 6 rfl ?_
                      refine hK_32045 _ _ (Option.some.inj h).symm ?_
                      cases e_31998.1 with
                      | nil =>
                        exact to_ren [] (leB rfl) (by kernel_rfl) (by kernel_rfl) (renE_of (by kernel_rfl) (by kernel_rfl)) ⟨rePl (by kernel_rfl) (leB rfl) (flat_all _ (fun _ => rfl) _), ⟨reRn (by kernel_rfl) (leB rfl) (by kernel_rfl), ⟨reRn (by kernel_rfl) (leB rfl) (by kernel_rfl), ⟨reRn (by kernel_rfl) (leB rfl) (by kernel_rfl), trivial⟩⟩⟩⟩
                      | cons y_ ys_ =>
                        exact to_ren [] (leB rfl) (by kernel_rfl) (by kernel_rfl) (renE_of (by kernel_rfl) (by kernel_rfl)) ⟨rePl (by kernel_rfl) (leB rfl) (flat_all _ (fun _ => rfl) _), ⟨reRn (by kernel_rfl) (leB rfl) (by kernel_rfl), ⟨reRn (by kernel_rfl) (leB rfl) (by kernel_rfl), ⟨reRn (by kernel_rfl) (leB rfl) (by kernel_rfl), ⟨rePl (by kernel_rfl) (leB rfl) (flat_all _ (fun _ => rfl) _), trivial⟩⟩⟩⟩⟩
                  · refine w_seq (fun K hK_32048 => ?_)
                    refine w_ite h (by kernel_rfl) (fun h_32049 h => ?_) (fun h_32049 h => ?_)
                    · refine w_reg ⟨[(4, Nl), (5, I 2)], ((0, ⟨34, 2, flat cs_Ratio s_31759.1⟩) :: ((2, ⟨34, 0, (cs_Ratio e_31998.2)⟩) :: ((3, ⟨34, 0, (cs_Ratio x_32021.1)⟩) :: ((4, ⟨34, 0, (cs_Ratio x_32040.1)⟩) :: (growH 1 ⟨38, 4, flat cs_Debt e_32043.1⟩ e_32043.1 []))))), 5⟩ (by kernel_rfl) (leB rfl) ?_
                      refine w_ret ?_
                      obtain rfl := ((h_31127 _ (h_31760 _ (Option.some.inj h).symm).symm).symm).symm
                      exact ret_leaf (.inl rfl) ⟨[(4, sl 4 cs_Debt []), (5, I 2)], [], 0⟩ (to_trans (to_put 4 (leB rfl) (by kernel_rfl) (Sub.nil 4)) (to_ren [] (leB rfl) (by kernel_rfl) (by kernel_rfl) (renE_of (by kernel_rfl) (by kernel_rfl)) trivial)) [sl 4 cs_Debt [], I 2] (by kernel_rfl) (by kernel_rfl) (leB rfl) (by kernel_rfl) trivial
                    · refine w_skip ?_
                      refine hK_32048 _ ⟨[(0, I a1), (6, .own 0 s_31759.1.length), (8, growE 1 e_32043.1), (9, I s_31759.2.2), (10, I x_31924), (11, I x_31929), (12, .ptr 2 0), (13, .ptr 3 0), (15, .ptr 4 0)], ((0, ⟨34, 2, flat cs_Ratio s_31759.1⟩) :: ((2, ⟨34, 0, (cs_Ratio e_31998.2)⟩) :: ((3, ⟨34, 0, (cs_Ratio x_32021.1)⟩) :: ((4, ⟨34, 0, (cs_Ratio x_32040.1)⟩) :: (growH 1 ⟨38, 4, flat cs_Debt e_32043.1⟩ e_32043.1 []))))), 5⟩ (to_trim (by kernel_rfl) (leB rfl)) ?_
                      refine w_seq (fun K hK_32056 => w_reg0 ?_)
                      refine dd_run 0 3 rfl (by kernel_rfl) ?_
                      obtain ⟨x_32059, h_32060, h⟩ := bind_some' h
                      refine dd_one 3 (.indexAddr 24 (.tmp 92) (.tmp 93)) (some 95) (by kernel_rfl) (o_pure (.ptr 0 (x_31924.toNat * 2)) (ev_idx_own (N := s_31759.1.length) (e := 34) (k := 2) (ik := .i64) h_32060 rfl (by kernel_rfl) (by kernel_rfl) (by kernel_rfl) (by kernel_rfl)) rfl) ?_
                      refine dd_one 4 (.store 34 (.tmp 95) (.tmp 94)) none (by kernel_rfl) (o_heap (U) ((0, ⟨34, 2, flat cs_Ratio (setI s_31759.1 x_31924 x_32021.1)⟩) :: ((2, ⟨34, 0, (cs_Ratio e_31998.2)⟩) :: ((3, ⟨34, 0, (cs_Ratio x_32021.1)⟩) :: ((4, ⟨34, 0, (cs_Ratio x_32040.1)⟩) :: (growH 1 ⟨38, 4, flat cs_Debt e_32043.1⟩ e_32043.1 []))))) 5 (by kernel_rfl) (hv_store_row (o := x_31924.toNat * 2) (b := 0) (y := .agg (cs_Ratio x_32021.1)) (i := x_31924.toNat) (j := 0) (k := 2) (s := 2) (c := cs_Ratio) (a' := x_32021.1) (sz := 2) (ty := 34) (fun _ => rfl) (getI_some h_32060).2 rfl (by kernel_rfl) (by kernel_rfl) (by kernel_rfl) (by kernel_rfl) (by kernel_rfl) (by kernel_rfl) (leB rfl) (by kernel_rfl)) rfl) ?_
                      refine ops_fin' hK_32056 ⟨[(0, I a1), (6, .own 0 s_31759.1.length), (8, growE 1 e_32043.1), (9, I s_31759.2.2), (10, I x_31924), (11, I x_31929), (12, .ptr 2 0), (15, .ptr 4 0)], ((0, ⟨34, 2, flat cs_Ratio (setI s_31759.1 x_31924 x_32021.1)⟩) :: ((2, ⟨34, 0, (cs_Ratio e_31998.2)⟩) :: ((3, ⟨34, 0, (cs_Ratio x_32021.1)⟩) :: ((4, ⟨34, 0, (cs_Ratio x_32040.1)⟩) :: (growH 1 ⟨38, 4, flat cs_Debt e_32043.1⟩ e_32043.1 []))))), 5⟩ (by kernel_rfl) (leB rfl) ?_
                      refine w_seq (fun K hK_32067 => w_reg0 ?_)
                      refine dd_run 0 3 rfl (by kernel_rfl) ?_
                      obtain ⟨x_32070, h_32071, h⟩ := bind_some' h
                      refine dd_one 3 (.indexAddr 24 (.tmp 96) (.tmp 97)) (some 99) (by kernel_rfl) (o_pure (.ptr 0 (x_31929.toNat * 2)) (ev_idx_own (N := s_31759.1.length) (e := 34) (k := 2) (ik := .i64) h_32071 (by simp [setI]) (by kernel_rfl) (by kernel_rfl) (by kernel_rfl) (by kernel_rfl)) rfl) ?_
                      refine dd_one 4 (.store 34 (.tmp 99) (.tmp 98)) none (by kernel_rfl) (o_heap (U) ((0, ⟨34, 2, flat cs_Ratio (setI (setI s_31759.1 x_31924 x_32021.1) x_31929 x_32040.1)⟩) :: ((2, ⟨34, 0, (cs_Ratio e_31998.2)⟩) :: ((3, ⟨34, 0, (cs_Ratio x_32021.1)⟩) :: ((4, ⟨34, 0, (cs_Ratio x_32040.1)⟩) :: (growH 1 ⟨38, 4, flat cs_Debt e_32043.1⟩ e_32043.1 []))))) 5 (by kernel_rfl) (hv_store_row (o := x_31929.toNat * 2) (b := 0) (y := .agg (cs_Ratio x_32040.1)) (i := x_31929.toNat) (j := 0) (k := 2) (s := 2) (c := cs_Ratio) (a' := x_32040.1) (sz := 2) (ty := 34) (fun _ => rfl) (getI_some h_32071).2 rfl (by kernel_rfl) (by kernel_rfl) (by kernel_rfl) (by kernel_rfl) (by kernel_rfl) (by kernel_rfl) (leB rfl) (by kernel_rfl)) rfl) ?_
                      refine ops_fin' hK_32067 ⟨[(0, I a1), (6, .own 0 s_31759.1.length), (8, growE 1 e_32043.1), (9, I s_31759.2.2), (10, I x_31924), (11, I x_31929), (12, .ptr 2 0)], ((0, ⟨34, 2, flat cs_Ratio (setI (setI s_31759.1 x_31924 x_32021.1) x_31929 x_32040.1)⟩) :: ((2, ⟨34, 0, (cs_Ratio e_31998.2)⟩) :: ((3, ⟨34, 0, (cs_Ratio x_32021.1)⟩) :: ((4, ⟨34, 0, (cs_Ratio x_32040.1)⟩) :: (growH 1 ⟨38, 4, flat cs_Debt e_32043.1⟩ e_32043.1 []))))), 5⟩ (by kernel_rfl) (leB rfl) ?_
                      refine w_reg0 ?_
                      refine dd_run 0 6 rfl (by kernel_rfl) ?_
                      obtain ⟨x_32074, h_32075, h⟩ := bind_some' h
                      refine dd_one 6 (.call ⟨.builtin .append, #[(.tmp 100), (.tmp 105)], #[22, 22]⟩) (some 106) (by kernel_rfl) (o_heap (.own 5 x_32074.length) [(5, ⟨38, 4, flat cs_Debt x_32074⟩), (0, ⟨34, 2, flat cs_Ratio (setI (setI s_31759.1 x_31924 x_32021.1) x_31929 x_32040.1)⟩), (2, ⟨34, 0, (cs_Ratio e_31998.2)⟩), (3, ⟨34, 0, (cs_Ratio x_32021.1)⟩), (4, ⟨34, 0, (cs_Ratio x_32040.1)⟩)] 6 (by kernel_rfl) (hv_append (sv := growE 1 e_32043.1) (xv := sl 4 cs_Debt [(D.Debt.mk x_31924 x_31929 e_31998.2)]) (by kernel_rfl) (by kernel_rfl) (app_new (e := 38) (k := 4) (c := cs_Debt) h_32075 (.inl (appO_pos h_32075)) (by kernel_rfl) (by kernel_rfl) (by kernel_rfl) (by kernel_rfl : zeroT _ _ = some [I 0, I 0, I 0, I 0]) (leB rfl) rfl (old_grow (k := 4) (c := cs_Debt) (A := [(0, ⟨34, 2, flat cs_Ratio (setI (setI s_31759.1 x_31924 x_32021.1) x_31929 x_32040.1)⟩), (2, ⟨34, 0, (cs_Ratio e_31998.2)⟩), (3, ⟨34, 0, (cs_Ratio x_32021.1)⟩), (4, ⟨34, 0, (cs_Ratio x_32040.1)⟩)]) (T := []) (fun _ => rfl) _ (by kernel_rfl) (by kernel_rfl) (by kernel_rfl) (by kernel_rfl)) (new_sl (k := 4) (c := cs_Debt) (fun _ => rfl) _))) rfl) ?_
                      refine dd_run 7 8 rfl (by kernel_rfl) ?_
                      refine dd_nil 8 rfl ?_
                      refine hK_31920 _ ⟨[(0, I a1), (6, .own 0 s_31759.1.length), (8, .own 5 x_32074.length), (9, I s_31759.2.2)], [(5, ⟨38, 4, flat cs_Debt x_32074⟩), (0, ⟨34, 2, flat cs_Ratio (setI (setI s_31759.1 x_31924 x_32021.1) x_31929 x_32040.1)⟩), (2, ⟨34, 0, (cs_Ratio e_31998.2)⟩), (3, ⟨34, 0, (cs_Ratio x_32021.1)⟩), (4, ⟨34, 0, (cs_Ratio x_32040.1)⟩)], 6⟩ (to_trim (by kernel_rfl) (leB rfl)) ?_
                      refine w_reg0 ?_
                      refine dd_run 0 3 rfl (by kernel_rfl) ?_
                      refine dd_nil 3 rfl ?_
                      obtain ⟨y_, ys_, hy_⟩ := ne_cons (appO_pos h_32075); subst hy_
                      exact hK_31761 _ _ (Option.some.inj h).symm (to_trans (to_put 6 (leB rfl) (by kernel_rfl) (Sub.of_eq (show AV.own 0 s_31759.1.length = AV.own 0 (setI (setI s_31759.1 x_31924 x_32021.1) x_31929 x_32040.1).length by simp [setI]))) (to_ren [(1, 5)] (leB rfl) (by kernel_rfl) (by kernel_rfl) (renE_of (by kernel_rfl) (by kernel_rfl)) ⟨rePl (by kernel_rfl) (leB rfl) (flat_all _ (fun _ => rfl) _), ⟨rePl (by kernel_rfl) (leB rfl) (flat_all _ (fun _ => rfl) _), trivial⟩⟩))
          · refine w_exit ?_
            exact hK_31128 _ _ (h_31760 _ (Option.some.inj h).symm).symm (to_trans (to_freezeG 8 1 s_31759.2.1 38 [(0, ⟨34, 2, flat cs_Ratio s_31759.1⟩)] [] (k := 4) (c := cs_Debt) (leB rfl) (by kernel_rfl) (by kernel_rfl) (by kernel_rfl) (free_nil _) (by kernel_rfl) (leB rfl) (fun _ => rfl) (fun _ => rfl) (fun _ => rfl)) (to_ren [] (leB rfl) (by kernel_rfl) (by kernel_rfl) (renE_of (by kernel_rfl) (by kernel_rfl)) trivial))
      · refine w_reg ⟨[(4, sl 4 cs_Debt e_31126), (5, I 0)], [], 0⟩ (by kernel_rfl) (leB rfl) ?_
        refine w_ret ?_
        obtain rfl := ((Option.some.inj h).symm).symm
        exact ret_leaf (.inl rfl) ⟨[(4, sl 4 cs_Debt e_31126), (5, I 0)], [], 0⟩ (to_ren [] (leB rfl) (by kernel_rfl) (by kernel_rfl) (renE_of (by kernel_rfl) (by kernel_rfl)) trivial) [sl 4 cs_Debt e_31126, I 0] (by kernel_rfl) (by kernel_rfl) (leB rfl) (by kernel_rfl) trivial
end Go.Proofs.Ytgggekjhfdkgkaa.Ab
