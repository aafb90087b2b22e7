/- Functions of the program as plain functions (printed by wip/dec.py). -/
import Derived.Test.YtgggekjhfdkgkaaDx1
import Derived.Test.YtgggekjhfdkgkaaDx2
import Derived.Test.YtgggekjhfdkgkaaDx6
namespace Go.Proofs.Ytgggekjhfdkgkaa.Ab
open Go Go.RowKit Go.Shelf
/-- estoppel/netting.Net -/
def g_netting_Net (a1 : Int) (a2 : List D.Debt) : Option (List D.Debt × Int) :=
  (g_netting_Positions_own a1 a2).bind (Sum.elim (fun x_15044 =>
  if (x_15044 != 0) = true then
  some ([], x_15044)
  else
  none) (fun x_15049 =>
  if (x_15049.2 != 0) = true then
  some ([], x_15049.2)
  else
  loopO (σ := List D.Ratio × List D.Debt) (fun s_15321 =>
  (g_netting_Net_1_Net_2 s_15321.1).bind fun x_15329 =>
  (g_netting_Net_1_Net_3 s_15321.1).bind fun x_15331 =>
  bindF (ρ := List D.Debt × Bool) (
  (getI s_15321.1 x_15329).bind fun x_15351 =>
  if (x_15351.Num == 0) = true then
  (getI s_15321.1 x_15331).bind fun x_15358 =>
  some (.inl (s_15321.2, (x_15358.Num == 0)))
  else
  some (.inl (s_15321.2, false))) (fun (e_15346 : List D.Debt × Bool) =>
  if e_15346.2 = true then
  some (.inr (e_15346.1, 0))
  else
  (getI s_15321.1 x_15331).bind fun x_15372 =>
  (getI s_15321.1 x_15329).bind fun x_15385 =>
  (g_netting_minus x_15385).bind fun x_15387 =>
  (g_ratio_Cmp x_15387 x_15372).bind fun x_15392 =>
  bindF (ρ := List D.Debt × D.Ratio) (
  if (decide (x_15392 < 0)) = true then
  some (.inl (e_15346.1, x_15387))
  else
  some (.inl (e_15346.1, x_15372))) (fun (e_15395 : List D.Debt × D.Ratio) =>
  (getI s_15321.1 x_15329).bind fun x_15414 =>
  (g_ratio_Add x_15414 e_15395.2).bind fun x_15416 =>
  (getI s_15321.1 x_15329).bind fun x_15420 =>
  (getI (setI s_15321.1 x_15329 x_15416.1) x_15331).bind fun x_15437 =>
  (g_ratio_Sub x_15437 e_15395.2).bind fun x_15439 =>
  (getI (setI s_15321.1 x_15329 x_15416.1) x_15331).bind fun x_15443 =>
  bindF (ρ := List D.Debt × Bool) (
  if (x_15416.2 != 0) = true then
  some (.inl (e_15395.1, true))
  else
  some (.inl (e_15395.1, (x_15439.2 != 0)))) (fun (e_15446 : List D.Debt × Bool) =>
  if e_15446.2 = true then
  some (.inr ([], 2))
  else
  (appO 32 e_15446.1 [(D.Debt.mk x_15329 x_15331 e_15395.2)]).bind fun x_15455 =>
  some (.inl ((setI (setI s_15321.1 x_15329 x_15416.1) x_15331 x_15439.1), x_15455)))))) (x_15049.1, [])))
set_option maxHeartbeats 4000000 in
theorem g_netting_Net_ok {a1 : Int} {a2 : List D.Debt} {res : List D.Debt × Int} (h : g_netting_Net a1 a2 = some res) : SpecK Try.prog [] 14 [I a1, sl 4 cs_Debt a2] [] 0 (.tup [sl 4 cs_Debt res.1, I res.2]) [] 0 := by
  refine ⟨spec_of_wp Try.func14 (by kernel_rfl) rfl Try.ntmps14 (by rw [Try.results14]) (leB rfl) ?_, by kernel_rfl, trivial, by kernel_rfl, trivial, by kernel_rfl⟩
  unfold g_netting_Net at h
  refine w_reg ⟨[(0, I a1), (1, sl 4 cs_Debt a2)], [], 0⟩ (by kernel_rfl) (leB rfl) ?_
  refine w_seq (fun K hK_15041 => w_reg0 ?_)
  refine dd_run 0 2 rfl (by kernel_rfl) ?_
  obtain ⟨x_15042, h_15043, h⟩ := bind_some' h
  rcases x_15042 with x_15044 | x_15049
  · dsimp only [Sum.elim_inl] at h
    refine dd_one 2 (.call ⟨.value (.func 10), #[(.tmp 17), (.tmp 18)], #[3, 22]⟩) (some 19) (by kernel_rfl) (o_callP (g_netting_Positions_own_ok1 h_15043) (by kernel_rfl) rfl) ?_
    refine ops_fin' hK_15041 ⟨[(6, .ptr 0 0), (7, I x_15044)], [(0, ⟨24, 0, [Nl]⟩)], 1⟩ (by kernel_rfl) (leB rfl) ?_
    refine w_assoc ?_
    refine w_reg ⟨[(6, .ptr 0 0), (7, I x_15044), (23, B (x_15044 != 0))], [(0, ⟨24, 0, [Nl]⟩)], 1⟩ (by kernel_rfl) (leB rfl) ?_
    refine w_seq (fun K hK_15046 => ?_)
    refine w_ite h (by kernel_rfl) (fun h_15047 h => ?_) (fun h_15047 h => ?_)
    · refine w_reg ⟨[(4, Nl), (5, I x_15044)], [(0, ⟨24, 0, [Nl]⟩)], 1⟩ (by kernel_rfl) (leB rfl) ?_
      refine w_ret ?_
      obtain rfl := ((Option.some.inj h).symm).symm
      exact ret_leaf (.inl rfl) ⟨[(4, sl 4 cs_Debt []), (5, I x_15044)], [], 0⟩ (to_trans (to_put 4 (leB rfl) (by kernel_rfl) (Sub.nil 4)) (to_ren [] (leB rfl) (by kernel_rfl) (by kernel_rfl) (renE_of (by kernel_rfl) (by kernel_rfl)) trivial)) [sl 4 cs_Debt [], I x_15044] (by kernel_rfl) (by kernel_rfl) (leB rfl) (by kernel_rfl) trivial
    · cases h
  · dsimp only [Sum.elim_inr] at h
    refine dd_one 2 (.call ⟨.value (.func 10), #[(.tmp 17), (.tmp 18)], #[3, 22]⟩) (some 19) (by kernel_rfl) (o_callE [] (g_netting_Positions_own_ok2 h_15043) (by kernel_rfl) (by kernel_rfl) (by kernel_rfl) rfl) ?_
    refine ops_fin' hK_15041 ⟨[(6, .ptr 1 0), (7, I x_15049.2)], [(1, ⟨24, 0, [.own 0 x_15049.1.length]⟩), (0, ⟨34, 2, flat cs_Ratio x_15049.1⟩)], 2⟩ (by kernel_rfl) (leB rfl) ?_
    refine w_assoc ?_
    refine w_reg ⟨[(6, .ptr 1 0), (7, I x_15049.2), (23, B (x_15049.2 != 0))], [(1, ⟨24, 0, [.own 0 x_15049.1.length]⟩), (0, ⟨34, 2, flat cs_Ratio x_15049.1⟩)], 2⟩ (by kernel_rfl) (leB rfl) ?_
    refine w_seq (fun K hK_15051 => ?_)
    refine w_ite h (by kernel_rfl) (fun h_15052 h => ?_) (fun h_15052 h => ?_)
    · refine w_reg ⟨[(4, Nl), (5, I x_15049.2)], [(1, ⟨24, 0, [.own 0 x_15049.1.length]⟩), (0, ⟨34, 2, flat cs_Ratio x_15049.1⟩)], 2⟩ (by kernel_rfl) (leB rfl) ?_
      refine w_ret ?_
      obtain rfl := ((Option.some.inj h).symm).symm
      exact ret_leaf (.inl rfl) ⟨[(4, sl 4 cs_Debt []), (5, I x_15049.2)], [], 0⟩ (to_trans (to_put 4 (leB rfl) (by kernel_rfl) (Sub.nil 4)) (to_ren [] (leB rfl) (by kernel_rfl) (by kernel_rfl) (renE_of (by kernel_rfl) (by kernel_rfl)) trivial)) [sl 4 cs_Debt [], I x_15049.2] (by kernel_rfl) (by kernel_rfl) (leB rfl) (by kernel_rfl) trivial
    · refine w_skip ?_
      refine hK_15051 _ ⟨[(6, .ptr 1 0)], [(1, ⟨24, 0, [.own 0 x_15049.1.length]⟩), (0, ⟨34, 2, flat cs_Ratio x_15049.1⟩)], 2⟩ (to_trim (by kernel_rfl) (leB rfl)) ?_
      refine w_reg ⟨[(6, .ptr 1 0), (8, .fn 33 [.ptr 1 0])], [(1, ⟨24, 0, [.own 0 x_15049.1.length]⟩), (0, ⟨34, 2, flat cs_Ratio x_15049.1⟩)], 2⟩ (by kernel_rfl) (leB rfl) ?_
      refine w_reg ⟨[(6, .ptr 1 0), (8, .fn 33 [.ptr 1 0]), (9, Nl)], [(1, ⟨24, 0, [.own 0 x_15049.1.length]⟩), (0, ⟨34, 2, flat cs_Ratio x_15049.1⟩)], 2⟩ (by kernel_rfl) (leB rfl) ?_
      refine w_block ?_
      refine w_loopO h (fun (s_15321 : List D.Ratio × List D.Debt) => ⟨[(6, .ptr 0 0), (8, .fn 33 [.ptr 0 0]), (9, growE 2 s_15321.2)], ((0, ⟨24, 0, [.own 1 s_15321.1.length]⟩) :: ((1, ⟨34, 2, flat cs_Ratio s_15321.1⟩) :: (growH 2 ⟨38, 4, flat cs_Debt s_15321.2⟩ s_15321.2 []))), 3⟩) (to_ren [(0, 1), (1, 0)] (leB rfl) (by kernel_rfl) (by kernel_rfl) (renE_of (by kernel_rfl) (by kernel_rfl)) ⟨reRn (by kernel_rfl) (leB rfl) (by kernel_rfl), ⟨rePl (by kernel_rfl) (leB rfl) (flat_all _ (fun _ => rfl) _), trivial⟩⟩) (fun s_15321 o h h_15322 K hK_15323 => ?_)
      · refine w_block ?_
        refine w_seq (fun K hK_15328 => w_reg0 ?_)
        refine dd_run 0 1 rfl (by kernel_rfl) ?_
        obtain ⟨x_15329, h_15330, h⟩ := bind_some' h
        refine dd_one 1 (.call ⟨.value (.tmp 26), #[(.func 34)], #[52]⟩) (some 27) (by kernel_rfl) (o_callG [0, 1] [(0, ⟨24, 0, [.own 1 s_15321.1.length]⟩), (1, ⟨34, 2, flat cs_Ratio s_15321.1⟩)] (growH 2 ⟨38, 4, flat cs_Debt s_15321.2⟩ s_15321.2 []) (g_netting_Net_1_Net_2_ok h_15330) [.fn 34 [], .ptr 0 0] (by kernel_rfl) (SubL.of_eq (by kernel_rfl)) (by kernel_rfl) (by kernel_rfl) (by kernel_rfl) (free_grow (by kernel_rfl) (free_nil _)) rfl) ?_
        refine dd_run 2 3 rfl (by kernel_rfl) ?_
        obtain ⟨x_15331, h_15332, h⟩ := bind_some' h
        refine dd_one 3 (.call ⟨.value (.tmp 28), #[(.func 35)], #[52]⟩) (some 29) (by kernel_rfl) (o_callG [0, 1] [(0, ⟨24, 0, [.own 1 s_15321.1.length]⟩), (1, ⟨34, 2, flat cs_Ratio s_15321.1⟩)] (growH 2 ⟨38, 4, flat cs_Debt s_15321.2⟩ s_15321.2 []) (g_netting_Net_1_Net_3_ok h_15332) [.fn 35 [], .ptr 0 0] (by kernel_rfl) (SubL.of_eq (by kernel_rfl)) (by kernel_rfl) (by kernel_rfl) (by kernel_rfl) (free_grow (by kernel_rfl) (free_nil _)) rfl) ?_
        refine ops_fin' hK_15328 ⟨[(6, .ptr 0 0), (8, .fn 33 [.ptr 0 0]), (9, growE 2 s_15321.2), (10, I x_15329), (11, I x_15331)], ((0, ⟨24, 0, [.own 1 s_15321.1.length]⟩) :: ((1, ⟨34, 2, flat cs_Ratio s_15321.1⟩) :: (growH 2 ⟨38, 4, flat cs_Debt s_15321.2⟩ s_15321.2 []))), 3⟩ (by kernel_rfl) (leB rfl) ?_
        refine w_assoc ?_
        refine w_cut h (fun (e_15346 : List D.Debt × Bool) => ⟨[(6, .ptr 0 0), (8, .fn 33 [.ptr 0 0]), (9, growE 2 e_15346.1), (10, I x_15329), (11, I x_15331), (43, B e_15346.2)], ((0, ⟨24, 0, [.own 1 s_15321.1.length]⟩) :: ((1, ⟨34, 2, flat cs_Ratio s_15321.1⟩) :: (growH 2 ⟨38, 4, flat cs_Debt e_15346.1⟩ e_15346.1 []))), 3⟩) (fun o h h_15347 K hK_15348 => ?_) (fun e_15346 h => ?_)
        · refine w_reg0 ?_
          refine dd_run 0 2 rfl (by kernel_rfl) ?_
          obtain ⟨x_15351, h_15352, h⟩ := bind_some' h
          refine dd_one 2 (.indexAddr 24 (.tmp 30) (.tmp 31)) (some 32) (by kernel_rfl) (o_pure (.ptr 1 (x_15329.toNat * 2)) (ev_idx_own (N := s_15321.1.length) (e := 34) (k := 2) (ik := .i64) h_15352 rfl (by kernel_rfl) (by kernel_rfl) (by kernel_rfl) (by kernel_rfl)) rfl) ?_
          refine dd_run 3 4 rfl (by kernel_rfl) ?_
          refine dd_one 4 (.load 3 (.tmp 33)) (some 34) (by kernel_rfl) (o_pure (I x_15351.Num) (ev_load_row (o := x_15329.toNat * 2) (b := 1) (i := x_15329.toNat) (j := 0) (k := 2) (c := cs_Ratio) (sz := 2) (ty := 34) (fun _ => rfl) (getI_some h_15352).2 rfl (by kernel_rfl) (by kernel_rfl) (by kernel_rfl)) rfl) ?_
          refine dd_run 5 7 rfl (by kernel_rfl) ?_
          refine ite_both h (fun h_15353 h => ?_) (fun h_15353 h => ?_)
          · refine dd_runG 7 9 6 true rfl (b := (x_15351.Num == 0)) (by kernel_rfl) h_15353 (by kernel_rfl) ?_
            obtain ⟨x_15358, h_15359, h⟩ := bind_some' h
            refine dd_oneG 9 (.indexAddr 24 (.tmp 37) (.tmp 38)) (some 39) 6 true (b := (x_15351.Num == 0)) (by kernel_rfl) (by kernel_rfl) h_15353 (o_pure (.ptr 1 (x_15331.toNat * 2)) (ev_idx_own (N := s_15321.1.length) (e := 34) (k := 2) (ik := .i64) h_15359 rfl (by kernel_rfl) (by kernel_rfl) (by kernel_rfl) (by kernel_rfl)) rfl) ?_
            refine dd_runG 10 11 6 true rfl (b := (x_15351.Num == 0)) (by kernel_rfl) h_15353 (by kernel_rfl) ?_
            refine dd_oneG 11 (.load 3 (.tmp 40)) (some 41) 6 true (b := (x_15351.Num == 0)) (by kernel_rfl) (by kernel_rfl) h_15353 (o_pure (I x_15358.Num) (ev_load_row (o := x_15331.toNat * 2) (b := 1) (i := x_15331.toNat) (j := 0) (k := 2) (c := cs_Ratio) (sz := 2) (ty := 34) (fun _ => rfl) (getI_some h_15359).2 rfl (by kernel_rfl) (by kernel_rfl) (by kernel_rfl)) rfl) ?_
            refine dd_runG 12 13 6 true rfl (b := (x_15351.Num == 0)) (by kernel_rfl) h_15353 (by kernel_rfl) ?_
            refine dd_one 13 (.pick (.tmp 36) (.tmp 42) (.const (.bool false))) (some 43) (by kernel_rfl) (o_pure (B (x_15358.Num == 0)) (ev_pickT h_15353 (by kernel_rfl) (by kernel_rfl)) rfl) ?_
            refine dd_nil 14 rfl ?_
            refine hK_15348 _ _ (Option.some.inj h).symm ?_
            cases s_15321.2 with
            | nil =>
              exact to_ren [] (leB rfl) (by kernel_rfl) (by kernel_rfl) (renE_of (by kernel_rfl) (by kernel_rfl)) ⟨reRn (by kernel_rfl) (leB rfl) (by kernel_rfl), ⟨rePl (by kernel_rfl) (leB rfl) (flat_all _ (fun _ => rfl) _), trivial⟩⟩
            | cons y_ ys_ =>
              exact to_ren [] (leB rfl) (by kernel_rfl) (by kernel_rfl) (renE_of (by kernel_rfl) (by kernel_rfl)) ⟨reRn (by kernel_rfl) (leB rfl) (by kernel_rfl), ⟨rePl (by kernel_rfl) (leB rfl) (flat_all _ (fun _ => rfl) _), ⟨rePl (by kernel_rfl) (leB rfl) (flat_all _ (fun _ => rfl) _), trivial⟩⟩⟩
          · refine dd_skip 7 13 6 true rfl (b := (x_15351.Num == 0)) (by kernel_rfl) h_15353 (by kernel_rfl) ?_
            refine dd_one 13 (.pick (.tmp 36) (.tmp 42) (.const (.bool false))) (some 43) (by kernel_rfl) (o_pure (B false) (ev_pickF h_15353 (by kernel_rfl) (by kernel_rfl)) rfl) ?_
            refine dd_nil 14 rfl ?_
            refine hK_15348 _ _ (Option.some.inj h).symm ?_
            cases s_15321.2 with
            | nil =>
              exact to_ren [] (leB rfl) (by kernel_rfl) (by kernel_rfl) (renE_of (by kernel_rfl) (by kernel_rfl)) ⟨reRn (by kernel_rfl) (leB rfl) (by kernel_rfl), ⟨rePl (by kernel_rfl) (leB rfl) (flat_all _ (fun _ => rfl) _), trivial⟩⟩
            | cons y_ ys_ =>
              exact to_ren [] (leB rfl) (by kernel_rfl) (by kernel_rfl) (renE_of (by kernel_rfl) (by kernel_rfl)) ⟨reRn (by kernel_rfl) (leB rfl) (by kernel_rfl), ⟨rePl (by kernel_rfl) (leB rfl) (flat_all _ (fun _ => rfl) _), ⟨rePl (by kernel_rfl) (leB rfl) (flat_all _ (fun _ => rfl) _), trivial⟩⟩⟩
        · refine w_seq (fun K hK_15361 => ?_)
          refine w_ite h (by kernel_rfl) (fun h_15362 h => ?_) (fun h_15362 h => ?_)
          · refine w_reg ⟨[(4, growE 2 e_15346.1), (5, I 0)], ((0, ⟨24, 0, [.own 1 s_15321.1.length]⟩) :: ((1, ⟨34, 2, flat cs_Ratio s_15321.1⟩) :: (growH 2 ⟨38, 4, flat cs_Debt e_15346.1⟩ e_15346.1 []))), 3⟩ (by kernel_rfl) (leB rfl) ?_
            refine w_ret ?_
            obtain rfl := ((h_15322 _ (Option.some.inj h).symm).symm).symm
            refine ret_leaf (.inl rfl) ⟨[(4, sl 4 cs_Debt e_15346.1), (5, I 0)], [], 0⟩ ?_ [sl 4 cs_Debt e_15346.1, I 0] (by kernel_rfl) (by kernel_rfl) (leB rfl) (by kernel_rfl) trivial
            cases e_15346.1 with
            | nil =>
              exact to_trans (to_put 4 (leB rfl) (by kernel_rfl) (Sub.nil 4)) (to_ren [] (leB rfl) (by kernel_rfl) (by kernel_rfl) (renE_of (by kernel_rfl) (by kernel_rfl)) trivial)
            | cons y_ ys_ =>
              exact to_trans (to_freeze 4 2 (y_ :: ys_).length ⟨38, 4, flat cs_Debt (y_ :: ys_)⟩ ((y_ :: ys_).map cs_Debt) (leB rfl) (by kernel_rfl) (by kernel_rfl) (leB rfl) (by simp [setI]) rfl (fun e he => by obtain ⟨x, _, rfl⟩ := List.mem_map.1 he; rfl) (fun e he a ha => by obtain ⟨x, _, rfl⟩ := List.mem_map.1 he; exact all_and (fun _ => rfl) (fun _ => rfl) x a ha)) (to_ren [] (leB rfl) (by kernel_rfl) (by kernel_rfl) (renE_of (by kernel_rfl) (by kernel_rfl)) trivial)
          · refine w_skip ?_
            refine hK_15361 _ ⟨[(6, .ptr 0 0), (8, .fn 33 [.ptr 0 0]), (9, growE 2 e_15346.1), (10, I x_15329), (11, I x_15331)], ((0, ⟨24, 0, [.own 1 s_15321.1.length]⟩) :: ((1, ⟨34, 2, flat cs_Ratio s_15321.1⟩) :: (growH 2 ⟨38, 4, flat cs_Debt e_15346.1⟩ e_15346.1 []))), 3⟩ (to_trim (by kernel_rfl) (leB rfl)) ?_
            refine w_seq (fun K hK_15369 => w_reg0 ?_)
            refine dd_run 0 2 rfl (by kernel_rfl) ?_
            obtain ⟨x_15372, h_15373, h⟩ := bind_some' h
            refine dd_one 2 (.indexAddr 24 (.tmp 45) (.tmp 46)) (some 47) (by kernel_rfl) (o_pure (.ptr 1 (x_15331.toNat * 2)) (ev_idx_own (N := s_15321.1.length) (e := 34) (k := 2) (ik := .i64) h_15373 rfl (by kernel_rfl) (by kernel_rfl) (by kernel_rfl) (by kernel_rfl)) rfl) ?_
            refine dd_one 3 (.load 34 (.tmp 47)) (some 48) (by kernel_rfl) (o_pure (.agg (cs_Ratio x_15372)) (ev_load_row (o := x_15331.toNat * 2) (b := 1) (i := x_15331.toNat) (j := 0) (k := 2) (c := cs_Ratio) (sz := 2) (ty := 34) (fun _ => rfl) (getI_some h_15373).2 rfl (by kernel_rfl) (by kernel_rfl) (by kernel_rfl)) rfl) ?_
            refine ops_fin' hK_15369 ⟨[(6, .ptr 0 0), (8, .fn 33 [.ptr 0 0]), (9, growE 2 e_15346.1), (10, I x_15329), (11, I x_15331), (12, .ptr 3 0)], ((3, ⟨34, 0, (cs_Ratio x_15372)⟩) :: ((0, ⟨24, 0, [.own 1 s_15321.1.length]⟩) :: ((1, ⟨34, 2, flat cs_Ratio s_15321.1⟩) :: (growH 2 ⟨38, 4, flat cs_Debt e_15346.1⟩ e_15346.1 [])))), 4⟩ (by kernel_rfl) (leB rfl) ?_
            refine w_assoc ?_
            refine w_seq (fun K hK_15382 => w_reg0 ?_)
            refine dd_run 0 2 rfl (by kernel_rfl) ?_
            obtain ⟨x_15385, h_15386, h⟩ := bind_some' h
            refine dd_one 2 (.indexAddr 24 (.tmp 49) (.tmp 50)) (some 51) (by kernel_rfl) (o_pure (.ptr 1 (x_15329.toNat * 2)) (ev_idx_own (N := s_15321.1.length) (e := 34) (k := 2) (ik := .i64) h_15386 rfl (by kernel_rfl) (by kernel_rfl) (by kernel_rfl) (by kernel_rfl)) rfl) ?_
            refine dd_one 3 (.load 34 (.tmp 51)) (some 52) (by kernel_rfl) (o_pure (.agg (cs_Ratio x_15385)) (ev_load_row (o := x_15329.toNat * 2) (b := 1) (i := x_15329.toNat) (j := 0) (k := 2) (c := cs_Ratio) (sz := 2) (ty := 34) (fun _ => rfl) (getI_some h_15386).2 rfl (by kernel_rfl) (by kernel_rfl) (by kernel_rfl)) rfl) ?_
            obtain ⟨x_15387, h_15388, h⟩ := bind_some' h
            refine dd_one 4 (.call ⟨.value (.func 30), #[(.tmp 52)], #[34]⟩) (some 53) (by kernel_rfl) (o_callP (g_netting_minus_ok h_15388) (by kernel_rfl) rfl) ?_
            refine ops_fin' hK_15382 ⟨[(6, .ptr 0 0), (8, .fn 33 [.ptr 0 0]), (9, growE 2 e_15346.1), (10, I x_15329), (11, I x_15331), (12, .ptr 3 0), (13, .ptr 4 0)], ((4, ⟨34, 0, (cs_Ratio x_15387)⟩) :: ((3, ⟨34, 0, (cs_Ratio x_15372)⟩) :: ((0, ⟨24, 0, [.own 1 s_15321.1.length]⟩) :: ((1, ⟨34, 2, flat cs_Ratio s_15321.1⟩) :: (growH 2 ⟨38, 4, flat cs_Debt e_15346.1⟩ e_15346.1 []))))), 5⟩ (by kernel_rfl) (leB rfl) ?_
            refine w_assoc ?_
            refine w_seq (fun K hK_15391 => w_reg0 ?_)
            refine dd_run 0 2 rfl (by kernel_rfl) ?_
            obtain ⟨x_15392, h_15393, h⟩ := bind_some' h
            refine dd_one 2 (.call ⟨.value (.func 24), #[(.tmp 54), (.tmp 55)], #[34, 34]⟩) (some 56) (by kernel_rfl) (o_callP (g_ratio_Cmp_ok h_15393) (by kernel_rfl) rfl) ?_
            refine ops_fin' hK_15391 ⟨[(6, .ptr 0 0), (8, .fn 33 [.ptr 0 0]), (9, growE 2 e_15346.1), (10, I x_15329), (11, I x_15331), (12, .ptr 3 0), (13, .ptr 4 0), (57, B (decide (x_15392 < 0)))], ((4, ⟨34, 0, (cs_Ratio x_15387)⟩) :: ((3, ⟨34, 0, (cs_Ratio x_15372)⟩) :: ((0, ⟨24, 0, [.own 1 s_15321.1.length]⟩) :: ((1, ⟨34, 2, flat cs_Ratio s_15321.1⟩) :: (growH 2 ⟨38, 4, flat cs_Debt e_15346.1⟩ e_15346.1 []))))), 5⟩ (by kernel_rfl) (leB rfl) ?_
            refine w_cut h (fun (e_15395 : List D.Debt × D.Ratio) => ⟨[(6, .ptr 0 0), (8, .fn 33 [.ptr 0 0]), (9, growE 2 e_15395.1), (10, I x_15329), (11, I x_15331), (12, .ptr 3 0)], ((0, ⟨24, 0, [.own 1 s_15321.1.length]⟩) :: ((1, ⟨34, 2, flat cs_Ratio s_15321.1⟩) :: ((3, ⟨34, 0, (cs_Ratio e_15395.2)⟩) :: (growH 2 ⟨38, 4, flat cs_Debt e_15395.1⟩ e_15395.1 [])))), 4⟩) (fun o h h_15396 K hK_15397 => ?_) (fun e_15395 h => ?_)
            · refine w_ite h (by kernel_rfl) (fun h_15398 h => ?_) (fun h_15398 h => ?_)
              · refine w_reg0 ?_
                refine dd_run 0 2 rfl (by kernel_rfl) ?_
                refine dd_nil 2 rfl ?_
                refine hK_15397 _ _ (Option.some.inj h).symm ?_
                cases e_15346.1 with
                | nil =>
                  exact to_ren [] (leB rfl) (by kernel_rfl) (by kernel_rfl) (renE_of (by kernel_rfl) (by kernel_rfl)) ⟨reRn (by kernel_rfl) (leB rfl) (by kernel_rfl), ⟨rePl (by kernel_rfl) (leB rfl) (flat_all _ (fun _ => rfl) _), ⟨reRn (by kernel_rfl) (leB rfl) (by kernel_rfl), trivial⟩⟩⟩
                | cons y_ ys_ =>
                  exact to_ren [] (leB rfl) (by kernel_rfl) (by kernel_rfl) (renE_of (by kernel_rfl) (by kernel_rfl)) ⟨reRn (by kernel_rfl) (leB rfl) (by kernel_rfl), ⟨rePl (by kernel_rfl) (leB rfl) (flat_all _ (fun _ => rfl) _), ⟨reRn (by kernel_rfl) (leB rfl) (by kernel_rfl), ⟨rePl (by kernel_rfl) (leB rfl) (flat_all _ (fun _ => rfl) _), trivial⟩⟩⟩⟩
              · refine w_skip ?_
                refine hK_15397 _ _ (Option.some.inj h).symm ?_
                cases e_15346.1 with
                | nil =>
                  exact to_ren [] (leB rfl) (by kernel_rfl) (by kernel_rfl) (renE_of (by kernel_rfl) (by kernel_rfl)) ⟨reRn (by kernel_rfl) (leB rfl) (by kernel_rfl), ⟨rePl (by kernel_rfl) (leB rfl) (flat_all _ (fun _ => rfl) _), ⟨reRn (by kernel_rfl) (leB rfl) (by kernel_rfl), trivial⟩⟩⟩
                | cons y_ ys_ =>
                  exact to_ren [] (leB rfl) (by kernel_rfl) (by kernel_rfl) (renE_of (by kernel_rfl) (by kernel_rfl)) ⟨reRn (by kernel_rfl) (leB rfl) (by kernel_rfl), ⟨rePl (by kernel_rfl) (leB rfl) (flat_all _ (fun _ => rfl) _), ⟨reRn (by kernel_rfl) (leB rfl) (by kernel_rfl), ⟨rePl (by kernel_rfl) (leB rfl) (flat_all _ (fun _ => rfl) _), trivial⟩⟩⟩⟩
            · refine w_reg ⟨[(6, .ptr 0 0), (8, .fn 33 [.ptr 0 0]), (9, growE 2 e_15395.1), (10, I x_15329), (11, I x_15331), (12, .ptr 3 0)], ((0, ⟨24, 0, [.own 1 s_15321.1.length]⟩) :: ((1, ⟨34, 2, flat cs_Ratio s_15321.1⟩) :: ((3, ⟨34, 0, (cs_Ratio e_15395.2)⟩) :: (growH 2 ⟨38, 4, flat cs_Debt e_15395.1⟩ e_15395.1 [])))), 4⟩ (by kernel_rfl) (leB rfl) ?_
              refine w_seq (fun K hK_15411 => w_mix0 (by kernel_rfl) (by kernel_rfl) ?_)
              refine mm_run 0 4 rfl (by kernel_rfl) ?_
              obtain ⟨x_15414, h_15415, h⟩ := bind_some' h
              refine mm_one 4 (.indexAddr 24 (.tmp 62) (.tmp 63)) (some 64) (by kernel_rfl) (by kernel_rfl) (oH_pure (.ptr 1 (x_15329.toNat * 2)) (ev_idx_own (N := s_15321.1.length) (e := 34) (k := 2) (ik := .i64) h_15415 rfl (by kernel_rfl) (by kernel_rfl) (by kernel_rfl) (by kernel_rfl)) rfl) ?_
              refine mm_one 5 (.load 34 (.tmp 64)) (some 65) (by kernel_rfl) (by kernel_rfl) (oH_pure (.agg (cs_Ratio x_15414)) (ev_load_row (o := x_15329.toNat * 2) (b := 1) (i := x_15329.toNat) (j := 0) (k := 2) (c := cs_Ratio) (sz := 2) (ty := 34) (fun _ => rfl) (getI_some h_15415).2 rfl (by kernel_rfl) (by kernel_rfl) (by kernel_rfl)) rfl) ?_
              refine mm_run 6 7 rfl (by kernel_rfl) ?_
              obtain ⟨x_15416, h_15417, h⟩ := bind_some' h
              refine mm_one 7 (.call ⟨.value (.func 20), #[(.tmp 65), (.tmp 66)], #[34, 34]⟩) (some 67) (by kernel_rfl) (by kernel_rfl) (oH_callP (g_ratio_Add_ok h_15417) (by kernel_rfl) rfl) ?_
              refine mm_run 8 11 rfl (by kernel_rfl) ?_
              obtain ⟨x_15420, h_15421, h⟩ := bind_some' h
              refine mm_one 11 (.indexAddr 24 (.tmp 60) (.tmp 61)) (some 70) (by kernel_rfl) (by kernel_rfl) (oH_pure (.ptr 1 (x_15329.toNat * 2)) (ev_idx_own (N := s_15321.1.length) (e := 34) (k := 2) (ik := .i64) h_15421 rfl (by kernel_rfl) (by kernel_rfl) (by kernel_rfl) (by kernel_rfl)) rfl) ?_
              refine mm_ops 12 (.store 34 (.tmp 70) (.tmp 68)) none none (by kernel_rfl) (by kernel_rfl) ?_
              refine dd_one 12 (.store 34 (.tmp 70) (.tmp 68)) none (by kernel_rfl) (o_heap (U) ((0, ⟨24, 0, [.own 1 s_15321.1.length]⟩) :: ((1, ⟨34, 2, flat cs_Ratio (setI s_15321.1 x_15329 x_15416.1)⟩) :: ((3, ⟨34, 0, (cs_Ratio e_15395.2)⟩) :: (growH 2 ⟨38, 4, flat cs_Debt e_15395.1⟩ e_15395.1 [])))) 4 (by kernel_rfl) (hv_store_row (o := x_15329.toNat * 2) (b := 1) (y := .agg (cs_Ratio x_15416.1)) (i := x_15329.toNat) (j := 0) (k := 2) (s := 2) (c := cs_Ratio) (a' := x_15416.1) (sz := 2) (ty := 34) (fun _ => rfl) (getI_some h_15421).2 rfl (by kernel_rfl) (by kernel_rfl) (by kernel_rfl) (by kernel_rfl) (by kernel_rfl) (by kernel_rfl) (leB rfl) (by kernel_rfl)) rfl) ?_
              refine ops_fin' hK_15411 ⟨[(6, .ptr 0 0), (8, .fn 33 [.ptr 0 0]), (9, growE 2 e_15395.1), (10, I x_15329), (11, I x_15331), (12, .ptr 3 0), (14, I x_15416.2)], ((0, ⟨24, 0, [.own 1 s_15321.1.length]⟩) :: ((1, ⟨34, 2, flat cs_Ratio (setI s_15321.1 x_15329 x_15416.1)⟩) :: ((3, ⟨34, 0, (cs_Ratio e_15395.2)⟩) :: (growH 2 ⟨38, 4, flat cs_Debt e_15395.1⟩ e_15395.1 [])))), 4⟩ (by kernel_rfl) (leB rfl) ?_
              refine w_seq (fun K hK_15434 => w_mix0 (by kernel_rfl) (by kernel_rfl) ?_)
              refine mm_run 0 4 rfl (by kernel_rfl) ?_
              obtain ⟨x_15437, h_15438, h⟩ := bind_some' h
              refine mm_one 4 (.indexAddr 24 (.tmp 74) (.tmp 75)) (some 76) (by kernel_rfl) (by kernel_rfl) (oH_pure (.ptr 1 (x_15331.toNat * 2)) (ev_idx_own (N := s_15321.1.length) (e := 34) (k := 2) (ik := .i64) h_15438 (by simp [setI]) (by kernel_rfl) (by kernel_rfl) (by kernel_rfl) (by kernel_rfl)) rfl) ?_
              refine mm_one 5 (.load 34 (.tmp 76)) (some 77) (by kernel_rfl) (by kernel_rfl) (oH_pure (.agg (cs_Ratio x_15437)) (ev_load_row (o := x_15331.toNat * 2) (b := 1) (i := x_15331.toNat) (j := 0) (k := 2) (c := cs_Ratio) (sz := 2) (ty := 34) (fun _ => rfl) (getI_some h_15438).2 rfl (by kernel_rfl) (by kernel_rfl) (by kernel_rfl)) rfl) ?_
              refine mm_run 6 7 rfl (by kernel_rfl) ?_
              obtain ⟨x_15439, h_15440, h⟩ := bind_some' h
              refine mm_one 7 (.call ⟨.value (.func 36), #[(.tmp 77), (.tmp 78)], #[34, 34]⟩) (some 79) (by kernel_rfl) (by kernel_rfl) (oH_callP (g_ratio_Sub_ok h_15440) (by kernel_rfl) rfl) ?_
              refine mm_run 8 11 rfl (by kernel_rfl) ?_
              obtain ⟨x_15443, h_15444, h⟩ := bind_some' h
              refine mm_one 11 (.indexAddr 24 (.tmp 72) (.tmp 73)) (some 82) (by kernel_rfl) (by kernel_rfl) (oH_pure (.ptr 1 (x_15331.toNat * 2)) (ev_idx_own (N := s_15321.1.length) (e := 34) (k := 2) (ik := .i64) h_15444 (by simp [setI]) (by kernel_rfl) (by kernel_rfl) (by kernel_rfl) (by kernel_rfl)) rfl) ?_
              refine mm_ops 12 (.store 34 (.tmp 82) (.tmp 80)) none none (by kernel_rfl) (by kernel_rfl) ?_
              refine dd_one 12 (.store 34 (.tmp 82) (.tmp 80)) none (by kernel_rfl) (o_heap (U) ((0, ⟨24, 0, [.own 1 s_15321.1.length]⟩) :: ((1, ⟨34, 2, flat cs_Ratio (setI (setI s_15321.1 x_15329 x_15416.1) x_15331 x_15439.1)⟩) :: ((3, ⟨34, 0, (cs_Ratio e_15395.2)⟩) :: (growH 2 ⟨38, 4, flat cs_Debt e_15395.1⟩ e_15395.1 [])))) 4 (by kernel_rfl) (hv_store_row (o := x_15331.toNat * 2) (b := 1) (y := .agg (cs_Ratio x_15439.1)) (i := x_15331.toNat) (j := 0) (k := 2) (s := 2) (c := cs_Ratio) (a' := x_15439.1) (sz := 2) (ty := 34) (fun _ => rfl) (getI_some h_15444).2 rfl (by kernel_rfl) (by kernel_rfl) (by kernel_rfl) (by kernel_rfl) (by kernel_rfl) (by kernel_rfl) (leB rfl) (by kernel_rfl)) rfl) ?_
              refine ops_fin' hK_15434 ⟨[(6, .ptr 0 0), (8, .fn 33 [.ptr 0 0]), (9, growE 2 e_15395.1), (10, I x_15329), (11, I x_15331), (12, .ptr 3 0), (14, I x_15416.2), (15, I x_15439.2)], ((0, ⟨24, 0, [.own 1 s_15321.1.length]⟩) :: ((1, ⟨34, 2, flat cs_Ratio (setI (setI s_15321.1 x_15329 x_15416.1) x_15331 x_15439.1)⟩) :: ((3, ⟨34, 0, (cs_Ratio e_15395.2)⟩) :: (growH 2 ⟨38, 4, flat cs_Debt e_15395.1⟩ e_15395.1 [])))), 4⟩ (by kernel_rfl) (leB rfl) ?_
              refine w_assoc ?_
              refine w_cut h (fun (e_15446 : List D.Debt × Bool) => ⟨[(6, .ptr 0 0), (8, .fn 33 [.ptr 0 0]), (9, growE 2 e_15446.1), (10, I x_15329), (11, I x_15331), (12, .ptr 3 0), (88, B e_15446.2)], ((0, ⟨24, 0, [.own 1 (setI (setI s_15321.1 x_15329 x_15416.1) x_15331 x_15439.1).length]⟩) :: ((1, ⟨34, 2, flat cs_Ratio (setI (setI s_15321.1 x_15329 x_15416.1) x_15331 x_15439.1)⟩) :: ((3, ⟨34, 0, (cs_Ratio e_15395.2)⟩) :: (growH 2 ⟨38, 4, flat cs_Debt e_15446.1⟩ e_15446.1 [])))), 4⟩) (fun o h h_15447 K hK_15448 => ?_) (fun e_15446 h => ?_)
              · refine w_reg0 ?_
                refine dd_run 0 3 rfl (by kernel_rfl) ?_
                refine ite_both h (fun h_15449 h => ?_) (fun h_15449 h => ?_)
                · refine dd_skip 3 5 2 false rfl (b := (x_15416.2 != 0)) (by kernel_rfl) h_15449 (by kernel_rfl) ?_
                  refine dd_one 5 (.pick (.tmp 85) (.const (.bool true)) (.tmp 87)) (some 88) (by kernel_rfl) (o_pure (B true) (ev_pickT h_15449 (by kernel_rfl) (by kernel_rfl)) rfl) ?_
                  refine dd_nil 6 rfl ?_
                  refine hK_15448 _ _ (Option.some.inj h).symm ?_
                  cases e_15395.1 with
                  | nil =>
                    exact to_trans (to_cell 0 0 (q := ⟨24, 0, [.own 1 s_15321.1.length]⟩) (leB rfl) (by kernel_rfl) (by kernel_rfl) (Sub.of_eq (show AV.own 1 s_15321.1.length = AV.own 1 (setI (setI s_15321.1 x_15329 x_15416.1) x_15331 x_15439.1).length by simp [setI]))) (to_ren [] (leB rfl) (by kernel_rfl) (by kernel_rfl) (renE_of (by kernel_rfl) (by kernel_rfl)) ⟨reRn (by kernel_rfl) (leB rfl) (by kernel_rfl), ⟨rePl (by kernel_rfl) (leB rfl) (flat_all _ (fun _ => rfl) _), ⟨reRn (by kernel_rfl) (leB rfl) (by kernel_rfl), trivial⟩⟩⟩)
                  | cons y_ ys_ =>
                    exact to_trans (to_cell 0 0 (q := ⟨24, 0, [.own 1 s_15321.1.length]⟩) (leB rfl) (by kernel_rfl) (by kernel_rfl) (Sub.of_eq (show AV.own 1 s_15321.1.length = AV.own 1 (setI (setI s_15321.1 x_15329 x_15416.1) x_15331 x_15439.1).length by simp [setI]))) (to_ren [] (leB rfl) (by kernel_rfl) (by kernel_rfl) (renE_of (by kernel_rfl) (by kernel_rfl)) ⟨reRn (by kernel_rfl) (leB rfl) (by kernel_rfl), ⟨rePl (by kernel_rfl) (leB rfl) (flat_all _ (fun _ => rfl) _), ⟨reRn (by kernel_rfl) (leB rfl) (by kernel_rfl), ⟨rePl (by kernel_rfl) (leB rfl) (flat_all _ (fun _ => rfl) _), trivial⟩⟩⟩⟩)
                · refine dd_runG 3 5 2 false rfl (b := (x_15416.2 != 0)) (by kernel_rfl) h_15449 (by kernel_rfl) ?_
                  refine dd_one 5 (.pick (.tmp 85) (.const (.bool true)) (.tmp 87)) (some 88) (by kernel_rfl) (o_pure (B (x_15439.2 != 0)) (ev_pickF h_15449 (by kernel_rfl) (by kernel_rfl)) rfl) ?_
                  refine dd_nil 6 rfl ?_
                  refine hK_15448 _ _ (Option.some.inj h).symm ?_
                  cases e_15395.1 with
                  | nil =>
                    exact to_trans (to_cell 0 0 (q := ⟨24, 0, [.own 1 s_15321.1.length]⟩) (leB rfl) (by kernel_rfl) (by kernel_rfl) (Sub.of_eq (show AV.own 1 s_15321.1.length = AV.own 1 (setI (setI s_15321.1 x_15329 x_15416.1) x_15331 x_15439.1).length by simp [setI]))) (to_ren [] (leB rfl) (by kernel_rfl) (by kernel_rfl) (renE_of (by kernel_rfl) (by kernel_rfl)) ⟨reRn (by kernel_rfl) (leB rfl) (by kernel_rfl), ⟨rePl (by kernel_rfl) (leB rfl) (flat_all _ (fun _ => rfl) _), ⟨reRn (by kernel_rfl) (leB rfl) (by kernel_rfl), trivial⟩⟩⟩)
                  | cons y_ ys_ =>
                    exact to_trans (to_cell 0 0 (q := ⟨24, 0, [.own 1 s_15321.1.length]⟩) (leB rfl) (by kernel_rfl) (by kernel_rfl) (Sub.of_eq (show AV.own 1 s_15321.1.length = AV.own 1 (setI (setI s_15321.1 x_15329 x_15416.1) x_15331 x_15439.1).length by simp [setI]))) (to_ren [] (leB rfl) (by kernel_rfl) (by kernel_rfl) (renE_of (by kernel_rfl) (by kernel_rfl)) ⟨reRn (by kernel_rfl) (leB rfl) (by kernel_rfl), ⟨rePl (by kernel_rfl) (leB rfl) (flat_all _ (fun _ => rfl) _), ⟨reRn (by kernel_rfl) (leB rfl) (by kernel_rfl), ⟨rePl (by kernel_rfl) (leB rfl) (flat_all _ (fun _ => rfl) _), trivial⟩⟩⟩⟩)
              · refine w_seq (fun K hK_15451 => ?_)
                refine w_ite h (by kernel_rfl) (fun h_15452 h => ?_) (fun h_15452 h => ?_)
                · refine w_reg ⟨[(4, Nl), (5, I 2)], ((0, ⟨24, 0, [.own 1 (setI (setI s_15321.1 x_15329 x_15416.1) x_15331 x_15439.1).length]⟩) :: ((1, ⟨34, 2, flat cs_Ratio (setI (setI s_15321.1 x_15329 x_15416.1) x_15331 x_15439.1)⟩) :: ((3, ⟨34, 0, (cs_Ratio e_15395.2)⟩) :: (growH 2 ⟨38, 4, flat cs_Debt e_15446.1⟩ e_15446.1 [])))), 4⟩ (by kernel_rfl) (leB rfl) ?_
                  refine w_ret ?_
                  obtain rfl := ((h_15322 _ (Option.some.inj h).symm).symm).symm
                  exact ret_leaf (.inl rfl) ⟨[(4, sl 4 cs_Debt []), (5, I 2)], [], 0⟩ (to_trans (to_put 4 (leB rfl) (by kernel_rfl) (Sub.nil 4)) (to_ren [] (leB rfl) (by kernel_rfl) (by kernel_rfl) (renE_of (by kernel_rfl) (by kernel_rfl)) trivial)) [sl 4 cs_Debt [], I 2] (by kernel_rfl) (by kernel_rfl) (leB rfl) (by kernel_rfl) trivial
                · refine w_skip ?_
                  refine hK_15451 _ ⟨[(6, .ptr 0 0), (8, .fn 33 [.ptr 0 0]), (9, growE 2 e_15446.1), (10, I x_15329), (11, I x_15331), (12, .ptr 3 0)], ((0, ⟨24, 0, [.own 1 (setI (setI s_15321.1 x_15329 x_15416.1) x_15331 x_15439.1).length]⟩) :: ((1, ⟨34, 2, flat cs_Ratio (setI (setI s_15321.1 x_15329 x_15416.1) x_15331 x_15439.1)⟩) :: ((3, ⟨34, 0, (cs_Ratio e_15395.2)⟩) :: (growH 2 ⟨38, 4, flat cs_Debt e_15446.1⟩ e_15446.1 [])))), 4⟩ (to_trim (by kernel_rfl) (leB rfl)) ?_
                  refine w_reg0 ?_
                  refine dd_run 0 6 rfl (by kernel_rfl) ?_
                  obtain ⟨x_15455, h_15456, h⟩ := bind_some' h
                  refine dd_one 6 (.call ⟨.builtin .append, #[(.tmp 89), (.tmp 94)], #[22, 22]⟩) (some 95) (by kernel_rfl) (o_heap (.own 4 x_15455.length) [(4, ⟨38, 4, flat cs_Debt x_15455⟩), (0, ⟨24, 0, [.own 1 (setI (setI s_15321.1 x_15329 x_15416.1) x_15331 x_15439.1).length]⟩), (1, ⟨34, 2, flat cs_Ratio (setI (setI s_15321.1 x_15329 x_15416.1) x_15331 x_15439.1)⟩), (3, ⟨34, 0, (cs_Ratio e_15395.2)⟩)] 5 (by kernel_rfl) (hv_append (sv := growE 2 e_15446.1) (xv := sl 4 cs_Debt [(D.Debt.mk x_15329 x_15331 e_15395.2)]) (by kernel_rfl) (by kernel_rfl) (app_new (e := 38) (k := 4) (c := cs_Debt) h_15456 (.inl (appO_pos h_15456)) (by kernel_rfl) (by kernel_rfl) (by kernel_rfl) (by kernel_rfl : zeroT _ _ = some [I 0, I 0, I 0, I 0]) (leB rfl) rfl (old_grow (k := 4) (c := cs_Debt) (A := [(0, ⟨24, 0, [.own 1 (setI (setI s_15321.1 x_15329 x_15416.1) x_15331 x_15439.1).length]⟩), (1, ⟨34, 2, flat cs_Ratio (setI (setI s_15321.1 x_15329 x_15416.1) x_15331 x_15439.1)⟩), (3, ⟨34, 0, (cs_Ratio e_15395.2)⟩)]) (T := []) (fun _ => rfl) _ (by kernel_rfl) (by kernel_rfl) (by kernel_rfl) (by kernel_rfl)) (new_sl (k := 4) (c := cs_Debt) (fun _ => rfl) _))) rfl) ?_
                  refine dd_run 7 8 rfl (by kernel_rfl) ?_
                  refine dd_nil 8 rfl ?_
                  obtain ⟨y_, ys_, hy_⟩ := ne_cons (appO_pos h_15456); subst hy_
                  exact hK_15323 _ _ (Option.some.inj h).symm (to_ren [(2, 4)] (leB rfl) (by kernel_rfl) (by kernel_rfl) (renE_of (by kernel_rfl) (by kernel_rfl)) ⟨reRn (by kernel_rfl) (leB rfl) (by kernel_rfl), ⟨rePl (by kernel_rfl) (leB rfl) (flat_all _ (fun _ => rfl) _), ⟨rePl (by kernel_rfl) (leB rfl) (flat_all _ (fun _ => rfl) _), trivial⟩⟩⟩)
/-- estoppel/estoppelref01.size -/
def g_estoppelref01_size (a1 : Int) : Option (Int) :=
  if (decide (a1 < 0)) = true then
  some (IntKind.u64.wrap (0 - (IntKind.u64.wrap a1)))
  else
  some (IntKind.u64.wrap a1)
set_option maxHeartbeats 4000000 in
theorem g_estoppelref01_size_ok {a1 : Int} {res : Int} (h : g_estoppelref01_size a1 = some res) : SpecK Try.prog [] 56 [I a1] [] 0 (.s (.int .u64 res)) [] 0 := by
  refine ⟨spec_of_wp Try.func56 (by kernel_rfl) rfl Try.ntmps56 (by rw [Try.results56]) (leB rfl) ?_, by kernel_rfl, trivial, by kernel_rfl, trivial, by kernel_rfl⟩
  unfold g_estoppelref01_size at h
  refine w_reg ⟨[(0, I a1)], [], 0⟩ (by kernel_rfl) (leB rfl) ?_
  refine w_assoc ?_
  refine w_reg ⟨[(0, I a1), (4, B (decide (a1 < 0)))], [], 0⟩ (by kernel_rfl) (leB rfl) ?_
  refine w_seq (fun K hK_15496 => ?_)
  refine w_ite h (by kernel_rfl) (fun h_15497 h => ?_) (fun h_15497 h => ?_)
  · refine w_reg ⟨[(2, .s (.int .u64 (IntKind.u64.wrap (0 - (IntKind.u64.wrap a1)))))], [], 0⟩ (by kernel_rfl) (leB rfl) ?_
    refine w_ret ?_
    obtain rfl := ((Option.some.inj h).symm).symm
    exact ret_leaf (.inl rfl) ⟨[(2, .s (.int .u64 (IntKind.u64.wrap (0 - (IntKind.u64.wrap a1)))))], [], 0⟩ (to_ren [] (leB rfl) (by kernel_rfl) (by kernel_rfl) (renE_of (by kernel_rfl) (by kernel_rfl)) trivial) [.s (.int .u64 (IntKind.u64.wrap (0 - (IntKind.u64.wrap a1))))] (by kernel_rfl) (by kernel_rfl) (leB rfl) (by kernel_rfl) trivial
  · refine w_skip ?_
    refine hK_15496 _ ⟨[(0, I a1)], [], 0⟩ (to_trim (by kernel_rfl) (leB rfl)) ?_
    refine w_reg ⟨[(2, .s (.int .u64 (IntKind.u64.wrap a1)))], [], 0⟩ (by kernel_rfl) (leB rfl) ?_
    refine w_ret ?_
    obtain rfl := ((Option.some.inj h).symm).symm
    exact ret_leaf (.inl rfl) ⟨[(2, .s (.int .u64 (IntKind.u64.wrap a1)))], [], 0⟩ (to_ren [] (leB rfl) (by kernel_rfl) (by kernel_rfl) (renE_of (by kernel_rfl) (by kernel_rfl)) trivial) [.s (.int .u64 (IntKind.u64.wrap a1))] (by kernel_rfl) (by kernel_rfl) (leB rfl) (by kernel_rfl) trivial
/-- estoppel/estoppelref01.Gcd -/
def g_estoppelref01_Gcd (a1 : Int) (a2 : Int) : Option (Int) :=
  bindF (ρ := Int) (
  loopO (σ := Int × Int) (fun s_15598 =>
  if (decide (s_15598.2 > 0)) = true then
  (remO s_15598.1 s_15598.2).bind fun x_15606 =>
  some (.inl (s_15598.2, x_15606))
  else
  some (.inr (.inl s_15598.1))) (a1, a2)) (fun (e_15579 : Int) =>
  some e_15579)
set_option maxHeartbeats 4000000 in
theorem g_estoppelref01_Gcd_ok {a1 : Int} {a2 : Int} {res : Int} (h : g_estoppelref01_Gcd a1 a2 = some res) : SpecK Try.prog [] 55 [.s (.int .u64 a1), .s (.int .u64 a2)] [] 0 (.s (.int .u64 res)) [] 0 := by
  refine ⟨spec_of_wp Try.func55 (by kernel_rfl) rfl Try.ntmps55 (by rw [Try.results55]) (leB rfl) ?_, by kernel_rfl, trivial, by kernel_rfl, trivial, by kernel_rfl⟩
  unfold g_estoppelref01_Gcd at h
  refine w_reg ⟨[(0, .s (.int .u64 a1)), (1, .s (.int .u64 a2))], [], 0⟩ (by kernel_rfl) (leB rfl) ?_
  refine w_cut h (fun (e_15579 : Int) => ⟨[(0, .s (.int .u64 e_15579))], [], 0⟩) (fun o h h_15580 K hK_15581 => ?_) (fun e_15579 h => ?_)
  · refine w_block ?_
    refine w_loopO h (fun (s_15598 : Int × Int) => ⟨[(0, .s (.int .u64 s_15598.1)), (1, .s (.int .u64 s_15598.2))], [], 0⟩) (to_ren [] (leB rfl) (by kernel_rfl) (by kernel_rfl) (renE_of (by kernel_rfl) (by kernel_rfl)) trivial) (fun s_15598 o h h_15599 K hK_15600 => ?_)
    · refine w_assoc ?_
      refine w_reg ⟨[(0, .s (.int .u64 s_15598.1)), (1, .s (.int .u64 s_15598.2)), (6, B (decide (s_15598.2 > 0)))], [], 0⟩ (by kernel_rfl) (leB rfl) ?_
      refine w_seq (fun K hK_15602 => ?_)
      refine w_ite h (by kernel_rfl) (fun h_15603 h => ?_) (fun h_15603 h => ?_)
      · refine w_skip ?_
        refine hK_15602 _ ⟨[(0, .s (.int .u64 s_15598.1)), (1, .s (.int .u64 s_15598.2))], [], 0⟩ (to_trim (by kernel_rfl) (leB rfl)) ?_
        refine w_block ?_
        refine w_mix0 (by kernel_rfl) (by kernel_rfl) ?_
        refine mm_run 0 3 rfl (by kernel_rfl) ?_
        obtain ⟨x_15606, h_15607, h⟩ := bind_some' h
        refine mm_one 3 (.binOp .rem 65 (.tmp 8) (.tmp 9) 65) (some 10) (by kernel_rfl) (by kernel_rfl) (oH_pure (.s (.int .u64 x_15606)) (ev_rem h_15607 (by kernel_rfl) (by kernel_rfl)) rfl) ?_
        refine mm_run 4 6 rfl (by kernel_rfl) ?_
        refine mm_nil 6 rfl ?_
        exact hK_15600 _ _ (Option.some.inj h).symm (to_ren [] (leB rfl) (by kernel_rfl) (by kernel_rfl) (renE_of (by kernel_rfl) (by kernel_rfl)) trivial)
      · refine w_exit ?_
        exact hK_15581 _ _ (h_15599 _ (Option.some.inj h).symm).symm (to_ren [] (leB rfl) (by kernel_rfl) (by kernel_rfl) (renE_of (by kernel_rfl) (by kernel_rfl)) trivial)
  · refine w_reg ⟨[(4, .s (.int .u64 e_15579))], [], 0⟩ (by kernel_rfl) (leB rfl) ?_
    refine w_ret ?_
    obtain rfl := ((Option.some.inj h).symm).symm
    exact ret_leaf (.inl rfl) ⟨[(4, .s (.int .u64 e_15579))], [], 0⟩ (to_ren [] (leB rfl) (by kernel_rfl) (by kernel_rfl) (renE_of (by kernel_rfl) (by kernel_rfl)) trivial) [.s (.int .u64 e_15579)] (by kernel_rfl) (by kernel_rfl) (leB rfl) (by kernel_rfl) trivial
end Go.Proofs.Ytgggekjhfdkgkaa.Ab
