/- Functions of the program as plain functions (printed by wip/dec.py). -/
import Derived.Test.YtgggekjhfdkgkaaDx3
import Derived.Test.YtgggekjhfdkgkaaDx5
import Derived.Test.YtgggekjhfdkgkaaDx7
import Derived.Test.YtgggekjhfdkgkaaDx13
import Derived.Test.YtgggekjhfdkgkaaDx14
namespace Go.Proofs.Ytgggekjhfdkgkaa.Ab
open Go Go.RowKit Go.Shelf
/-- estoppel/estoppellaw42.NettingOrder -/
def g_estoppellaw42_NettingOrder (a1 : Int) (a2 : List D.Debt) : Option (Bool) :=
  (g_estoppellaw42_head).bind fun x_34775 =>
  if (decide ((a2.length : Int) > 400)) = true then
  some x_34775
  else
  bindF (ρ := List D.Debt) (
  loopO (σ := List D.Debt × Int) (fun s_34890 =>
  if (decide (s_34890.2 ≥ 0)) = true then
  (getI a2 s_34890.2).bind fun x_34907 =>
  (appO 32 s_34890.1 [x_34907]).bind fun x_34911 =>
  some (.inl (x_34911, (IntKind.i64.wrap (s_34890.2 - 1))))
  else
  some (.inr (.inl s_34890.1))) ([], (IntKind.i64.wrap ((a2.length : Int) - 1)))) (fun (e_34845 : List D.Debt) =>
  (g_netting_Positions a1 a2).bind fun x_34916 =>
  (g_netting_Positions a1 e_34845).bind fun x_34921 =>
  (g_netting_Pairs a1 a2).bind fun x_34926 =>
  (g_netting_Pairs a1 e_34845).bind fun x_34931 =>
  (g_netting_Net a1 a2).bind fun x_34936 =>
  (g_netting_Net a1 e_34845).bind fun x_34941 =>
  bindF (ρ := Bool) (
  if (!((x_34916.2 == 1) == (x_34921.2 == 1))) = true then
  some (.inl true)
  else
  if (x_34916.2 == 0) = true then
  if (x_34921.2 == 0) = true then
  (g_estoppelref42_Ratios x_34916.1 x_34921.1).bind fun x_34954 =>
  some (.inl (!x_34954))
  else
  some (.inl false)
  else
  some (.inl false)) (fun (e_34948 : Bool) =>
  if e_34948 = true then
  some false
  else
  bindF (ρ := Bool) (
  if (x_34926.2 == 0) = true then
  if (x_34931.2 == 0) = true then
  (g_estoppelref42_Same x_34926.1 x_34931.1).bind fun x_34968 =>
  some (.inl (!x_34968))
  else
  some (.inl false)
  else
  some (.inl false)) (fun (e_34963 : Bool) =>
  if e_34963 = true then
  some false
  else
  if x_34775 = true then
  if (x_34936.2 != 0) = true then
  if (x_34916.2 != 0) = true then
  some true
  else
  if (x_34921.2 != 0) = true then
  some true
  else
  some (x_34936.2 == x_34941.2)
  else
  if (x_34941.2 != 0) = true then
  if (x_34916.2 != 0) = true then
  some true
  else
  if (x_34921.2 != 0) = true then
  some true
  else
  some (x_34936.2 == x_34941.2)
  else
  (g_estoppelref42_Same x_34936.1 x_34941.1).bind fun x_34993 =>
  if x_34993 = true then
  if (x_34916.2 != 0) = true then
  some true
  else
  if (x_34921.2 != 0) = true then
  some true
  else
  some (x_34936.2 == x_34941.2)
  else
  some false
  else
  some false)))
set_option maxHeartbeats 4000000 in
theorem g_estoppellaw42_NettingOrder_ok {a1 : Int} {a2 : List D.Debt} {res : Bool} (h : g_estoppellaw42_NettingOrder a1 a2 = some res) : SpecK Try.prog [] 7 [I a1, sl 4 cs_Debt a2] [] 0 (B res) [] 0 := by
  refine ⟨spec_of_wp Try.func7 (by kernel_rfl) rfl Try.ntmps7 (by rw [Try.results7]) (leB rfl) ?_, by kernel_rfl, trivial, by kernel_rfl, trivial, by kernel_rfl⟩
  unfold g_estoppellaw42_NettingOrder at h
  refine w_reg ⟨[(0, I a1), (1, sl 4 cs_Debt a2)], [], 0⟩ (by kernel_rfl) (leB rfl) ?_
  refine w_seq (fun K hK_34774 => w_reg0 ?_)
  obtain ⟨x_34775, h_34776, h⟩ := bind_some' h
  refine dd_one 0 (.call ⟨.value (.func 9), #[], #[]⟩) (some 20) (by kernel_rfl) (o_callP (g_estoppellaw42_head_ok h_34776) (by kernel_rfl) rfl) ?_
  refine ops_fin' hK_34774 ⟨[(0, I a1), (1, sl 4 cs_Debt a2), (5, B x_34775)], [], 0⟩ (by kernel_rfl) (leB rfl) ?_
  refine w_assoc ?_
  refine w_seq (fun K hK_34777 => w_reg0 ?_)
  refine dd_run 0 1 rfl (by kernel_rfl) ?_
  refine dd_one 1 (.call ⟨.builtin .len, #[(.tmp 21)], #[22]⟩) (some 22) (by kernel_rfl) (o_pure (I (a2.length : Int)) (ev_len_sl (e := 38) (ty := 0) (k := 4) (c := cs_Debt) (by kernel_rfl) (by kernel_rfl)) rfl) ?_
  refine ops_fin' hK_34777 ⟨[(0, I a1), (1, sl 4 cs_Debt a2), (5, B x_34775), (23, B (decide ((a2.length : Int) > 400)))], [], 0⟩ (by kernel_rfl) (leB rfl) ?_
  refine w_seq (fun K hK_34779 => ?_)
  refine w_ite h (by kernel_rfl) (fun h_34780 h => ?_) (fun h_34780 h => ?_)
  · refine w_reg ⟨[(4, B x_34775)], [], 0⟩ (by kernel_rfl) (leB rfl) ?_
    refine w_ret ?_
    obtain rfl := ((Option.some.inj h).symm).symm
    exact ret_leaf (.inl rfl) ⟨[(4, B x_34775)], [], 0⟩ (to_ren [] (leB rfl) (by kernel_rfl) (by kernel_rfl) (renE_of (by kernel_rfl) (by kernel_rfl)) trivial) [B x_34775] (by kernel_rfl) (by kernel_rfl) (leB rfl) (by kernel_rfl) trivial
  · refine w_skip ?_
    refine hK_34779 _ ⟨[(0, I a1), (1, sl 4 cs_Debt a2), (5, B x_34775)], [], 0⟩ (to_trim (by kernel_rfl) (leB rfl)) ?_
    refine w_reg ⟨[(0, I a1), (1, sl 4 cs_Debt a2), (5, B x_34775), (6, Nl)], [], 0⟩ (by kernel_rfl) (leB rfl) ?_
    refine w_assoc ?_
    refine w_seq (fun K hK_34781 => w_reg0 ?_)
    refine dd_run 0 1 rfl (by kernel_rfl) ?_
    refine dd_one 1 (.call ⟨.builtin .len, #[(.tmp 25)], #[22]⟩) (some 26) (by kernel_rfl) (o_pure (I (a2.length : Int)) (ev_len_sl (e := 38) (ty := 0) (k := 4) (c := cs_Debt) (by kernel_rfl) (by kernel_rfl)) rfl) ?_
    refine ops_fin' hK_34781 ⟨[(0, I a1), (1, sl 4 cs_Debt a2), (5, B x_34775), (6, Nl), (7, I (IntKind.i64.wrap ((a2.length : Int) - 1)))], [], 0⟩ (by kernel_rfl) (leB rfl) ?_
    refine w_cut h (fun (e_34845 : List D.Debt) => ⟨[(0, I a1), (1, sl 4 cs_Debt a2), (5, B x_34775), (6, sl 4 cs_Debt e_34845)], [], 0⟩) (fun o h h_34846 K hK_34847 => ?_) (fun e_34845 h => ?_)
    · refine w_block ?_
      refine w_loopO h (fun (s_34890 : List D.Debt × Int) => ⟨[(0, I a1), (1, sl 4 cs_Debt a2), (5, B x_34775), (6, growE 0 s_34890.1), (7, I s_34890.2)], (growH 0 ⟨38, 4, flat cs_Debt s_34890.1⟩ s_34890.1 []), 1⟩) (to_ren [] (leB rfl) (by kernel_rfl) (by kernel_rfl) (renE_of (by kernel_rfl) (by kernel_rfl)) trivial) (fun s_34890 o h h_34891 K hK_34892 => ?_)
      · refine w_assoc ?_
        refine w_reg ⟨[(0, I a1), (1, sl 4 cs_Debt a2), (5, B x_34775), (6, growE 0 s_34890.1), (7, I s_34890.2), (29, B (decide (s_34890.2 ≥ 0)))], (growH 0 ⟨38, 4, flat cs_Debt s_34890.1⟩ s_34890.1 []), 1⟩ (by kernel_rfl) (leB rfl) ?_
        refine w_seq (fun K hK_34894 => ?_)
        refine w_ite h (by kernel_rfl) (fun h_34895 h => ?_) (fun h_34895 h => ?_)
        · refine w_skip ?_
          refine hK_34894 _ ⟨[(0, I a1), (1, sl 4 cs_Debt a2), (5, B x_34775), (6, growE 0 s_34890.1), (7, I s_34890.2)], (growH 0 ⟨38, 4, flat cs_Debt s_34890.1⟩ s_34890.1 []), 1⟩ (to_trim (by kernel_rfl) (leB rfl)) ?_
          refine w_seq (fun K hK_34904 => ?_)
          refine w_block ?_
          refine w_reg0 ?_
          refine dd_run 0 3 rfl (by kernel_rfl) ?_
          obtain ⟨x_34907, h_34908, h⟩ := bind_some' h
          refine dd_one 3 (.indexAddr 22 (.tmp 33) (.tmp 34)) (some 35) (by kernel_rfl) (o_pure (.ip (cs_Debt x_34907)) (ev_idx_sl (e := 38) (k := 4) (c := cs_Debt) (ik := .i64) h_34908 (by kernel_rfl) (by kernel_rfl) (by kernel_rfl) (by kernel_rfl)) rfl) ?_
          refine dd_run 4 6 rfl (by kernel_rfl) ?_
          obtain ⟨x_34911, h_34912, h⟩ := bind_some' h
          refine dd_one 6 (.call ⟨.builtin .append, #[(.tmp 32), (.tmp 37)], #[22, 22]⟩) (some 38) (by kernel_rfl) (o_heap (.own 1 x_34911.length) [(1, ⟨38, 4, flat cs_Debt x_34911⟩)] 2 (by kernel_rfl) (hv_append (sv := growE 0 s_34890.1) (xv := sl 4 cs_Debt [x_34907]) (by kernel_rfl) (by kernel_rfl) (app_new (e := 38) (k := 4) (c := cs_Debt) h_34912 (.inl (appO_pos h_34912)) (by kernel_rfl) (by kernel_rfl) (by kernel_rfl) (by kernel_rfl : zeroT _ _ = some [I 0, I 0, I 0, I 0]) (leB rfl) rfl (old_grow (k := 4) (c := cs_Debt) (A := []) (T := []) (fun _ => rfl) _ (by kernel_rfl) (by kernel_rfl) (by kernel_rfl) (by kernel_rfl)) (new_sl (k := 4) (c := cs_Debt) (fun _ => rfl) _))) rfl) ?_
          refine dd_run 7 8 rfl (by kernel_rfl) ?_
          refine dd_nil 8 rfl ?_
          refine hK_34904 _ ⟨[(0, I a1), (1, sl 4 cs_Debt a2), (5, B x_34775), (6, .own 1 x_34911.length), (7, I s_34890.2)], [(1, ⟨38, 4, flat cs_Debt x_34911⟩)], 2⟩ (to_trim (by kernel_rfl) (leB rfl)) ?_
          refine w_reg0 ?_
          refine dd_run 0 3 rfl (by kernel_rfl) ?_
          refine dd_nil 3 rfl ?_
          obtain ⟨y_, ys_, hy_⟩ := ne_cons (appO_pos h_34912); subst hy_
          exact hK_34892 _ _ (Option.some.inj h).symm (to_ren [(0, 1)] (leB rfl) (by kernel_rfl) (by kernel_rfl) (renE_of (by kernel_rfl) (by kernel_rfl)) ⟨rePl (by kernel_rfl) (leB rfl) (flat_all _ (fun _ => rfl) _), trivial⟩)
        · refine w_exit ?_
          exact hK_34847 _ _ (h_34891 _ (Option.some.inj h).symm).symm (to_trans (to_freezeG 6 0 s_34890.1 38 [] [] (k := 4) (c := cs_Debt) (leB rfl) (by kernel_rfl) (by kernel_rfl) (by kernel_rfl) (free_nil _) (by kernel_rfl) (leB rfl) (fun _ => rfl) (fun _ => rfl) (fun _ => rfl)) (to_ren [] (leB rfl) (by kernel_rfl) (by kernel_rfl) (renE_of (by kernel_rfl) (by kernel_rfl)) trivial))
    · refine w_seq (fun K hK_34915 => w_reg0 ?_)
      refine dd_run 0 2 rfl (by kernel_rfl) ?_
      obtain ⟨x_34916, h_34917, h⟩ := bind_some' h
      refine dd_one 2 (.call ⟨.value (.func 10), #[(.tmp 40), (.tmp 41)], #[3, 22]⟩) (some 42) (by kernel_rfl) (o_callP (g_netting_Positions_ok h_34917) (by kernel_rfl) rfl) ?_
      refine ops_fin' hK_34915 ⟨[(0, I a1), (1, sl 4 cs_Debt a2), (5, B x_34775), (6, sl 4 cs_Debt e_34845), (8, sl 2 cs_Ratio x_34916.1), (9, I x_34916.2)], [], 0⟩ (by kernel_rfl) (leB rfl) ?_
      refine w_seq (fun K hK_34920 => w_reg0 ?_)
      refine dd_run 0 2 rfl (by kernel_rfl) ?_
      obtain ⟨x_34921, h_34922, h⟩ := bind_some' h
      refine dd_one 2 (.call ⟨.value (.func 10), #[(.tmp 46), (.tmp 47)], #[3, 22]⟩) (some 48) (by kernel_rfl) (o_callP (g_netting_Positions_ok h_34922) (by kernel_rfl) rfl) ?_
      refine ops_fin' hK_34920 ⟨[(0, I a1), (1, sl 4 cs_Debt a2), (5, B x_34775), (6, sl 4 cs_Debt e_34845), (8, sl 2 cs_Ratio x_34916.1), (9, I x_34916.2), (10, sl 2 cs_Ratio x_34921.1), (11, I x_34921.2)], [], 0⟩ (by kernel_rfl) (leB rfl) ?_
      refine w_seq (fun K hK_34925 => w_reg0 ?_)
      refine dd_run 0 2 rfl (by kernel_rfl) ?_
      obtain ⟨x_34926, h_34927, h⟩ := bind_some' h
      refine dd_one 2 (.call ⟨.value (.func 12), #[(.tmp 52), (.tmp 53)], #[3, 22]⟩) (some 54) (by kernel_rfl) (o_callP (g_netting_Pairs_ok h_34927) (by kernel_rfl) rfl) ?_
      refine ops_fin' hK_34925 ⟨[(0, I a1), (1, sl 4 cs_Debt a2), (5, B x_34775), (6, sl 4 cs_Debt e_34845), (8, sl 2 cs_Ratio x_34916.1), (9, I x_34916.2), (10, sl 2 cs_Ratio x_34921.1), (11, I x_34921.2), (12, sl 4 cs_Debt x_34926.1), (13, I x_34926.2)], [], 0⟩ (by kernel_rfl) (leB rfl) ?_
      refine w_seq (fun K hK_34930 => w_reg0 ?_)
      refine dd_run 0 2 rfl (by kernel_rfl) ?_
      obtain ⟨x_34931, h_34932, h⟩ := bind_some' h
      refine dd_one 2 (.call ⟨.value (.func 12), #[(.tmp 58), (.tmp 59)], #[3, 22]⟩) (some 60) (by kernel_rfl) (o_callP (g_netting_Pairs_ok h_34932) (by kernel_rfl) rfl) ?_
      refine ops_fin' hK_34930 ⟨[(0, I a1), (1, sl 4 cs_Debt a2), (5, B x_34775), (6, sl 4 cs_Debt e_34845), (8, sl 2 cs_Ratio x_34916.1), (9, I x_34916.2), (10, sl 2 cs_Ratio x_34921.1), (11, I x_34921.2), (12, sl 4 cs_Debt x_34926.1), (13, I x_34926.2), (14, sl 4 cs_Debt x_34931.1), (15, I x_34931.2)], [], 0⟩ (by kernel_rfl) (leB rfl) ?_
      refine w_seq (fun K hK_34935 => w_reg0 ?_)
      refine dd_run 0 2 rfl (by kernel_rfl) ?_
      obtain ⟨x_34936, h_34937, h⟩ := bind_some' h
      refine dd_one 2 (.call ⟨.value (.func 14), #[(.tmp 64), (.tmp 65)], #[3, 22]⟩) (some 66) (by kernel_rfl) (o_callP (g_netting_Net_ok h_34937) (by kernel_rfl) rfl) ?_
      refine ops_fin' hK_34935 ⟨[(0, I a1), (5, B x_34775), (6, sl 4 cs_Debt e_34845), (8, sl 2 cs_Ratio x_34916.1), (9, I x_34916.2), (10, sl 2 cs_Ratio x_34921.1), (11, I x_34921.2), (12, sl 4 cs_Debt x_34926.1), (13, I x_34926.2), (14, sl 4 cs_Debt x_34931.1), (15, I x_34931.2), (16, sl 4 cs_Debt x_34936.1), (17, I x_34936.2)], [], 0⟩ (by kernel_rfl) (leB rfl) ?_
      refine w_seq (fun K hK_34940 => w_reg0 ?_)
      refine dd_run 0 2 rfl (by kernel_rfl) ?_
      obtain ⟨x_34941, h_34942, h⟩ := bind_some' h
      refine dd_one 2 (.call ⟨.value (.func 14), #[(.tmp 70), (.tmp 71)], #[3, 22]⟩) (some 72) (by kernel_rfl) (o_callP (g_netting_Net_ok h_34942) (by kernel_rfl) rfl) ?_
      refine ops_fin' hK_34940 ⟨[(5, B x_34775), (8, sl 2 cs_Ratio x_34916.1), (9, I x_34916.2), (10, sl 2 cs_Ratio x_34921.1), (11, I x_34921.2), (12, sl 4 cs_Debt x_34926.1), (13, I x_34926.2), (14, sl 4 cs_Debt x_34931.1), (15, I x_34931.2), (16, sl 4 cs_Debt x_34936.1), (17, I x_34936.2), (18, sl 4 cs_Debt x_34941.1), (19, I x_34941.2)], [], 0⟩ (by kernel_rfl) (leB rfl) ?_
      refine w_assoc ?_
      refine w_cut h (fun (e_34948 : Bool) => ⟨[(5, B x_34775), (9, I x_34916.2), (11, I x_34921.2), (12, sl 4 cs_Debt x_34926.1), (13, I x_34926.2), (14, sl 4 cs_Debt x_34931.1), (15, I x_34931.2), (16, sl 4 cs_Debt x_34936.1), (17, I x_34936.2), (18, sl 4 cs_Debt x_34941.1), (19, I x_34941.2), (93, B e_34948)], [], 0⟩) (fun o h h_34949 K hK_34950 => ?_) (fun e_34948 h => ?_)
      · refine w_reg0 ?_
        refine dd_run 0 6 rfl (by kernel_rfl) ?_
        refine ite_both h (fun h_34951 h => ?_) (fun h_34951 h => ?_)
        · refine dd_skip 6 9 5 false rfl (b := (!((x_34916.2 == 1) == (x_34921.2 == 1)))) (by kernel_rfl) h_34951 (by kernel_rfl) ?_
          refine dd_skipU 9 11 8 true rfl (by kernel_rfl) (by kernel_rfl) ?_
          refine dd_skip 11 13 5 false rfl (b := (!((x_34916.2 == 1) == (x_34921.2 == 1)))) (by kernel_rfl) h_34951 (by kernel_rfl) ?_
          refine dd_skipU 13 17 12 true rfl (by kernel_rfl) (by kernel_rfl) ?_
          refine dd_skip 17 18 5 false rfl (b := (!((x_34916.2 == 1) == (x_34921.2 == 1)))) (by kernel_rfl) h_34951 (by kernel_rfl) ?_
          refine dd_one 18 (.pick (.tmp 80) (.const (.bool true)) (.tmp 92)) (some 93) (by kernel_rfl) (o_pure (B true) (ev_pickT h_34951 (by kernel_rfl) (by kernel_rfl)) rfl) ?_
          refine dd_nil 19 rfl ?_
          exact hK_34950 _ _ (Option.some.inj h).symm (to_ren [] (leB rfl) (by kernel_rfl) (by kernel_rfl) (renE_of (by kernel_rfl) (by kernel_rfl)) trivial)
        · refine dd_runG 6 9 5 false rfl (b := (!((x_34916.2 == 1) == (x_34921.2 == 1)))) (by kernel_rfl) h_34951 (by kernel_rfl) ?_
          refine ite_both h (fun h_34952 h => ?_) (fun h_34952 h => ?_)
          · refine dd_runG 9 11 8 true rfl (b := (x_34916.2 == 0)) (by kernel_rfl) h_34952 (by kernel_rfl) ?_
            refine dd_oneG 11 (.pick (.tmp 83) (.tmp 85) (.const (.bool false))) (some 86) 5 false (b := (!((x_34916.2 == 1) == (x_34921.2 == 1)))) (by kernel_rfl) (by kernel_rfl) h_34951 (o_pure (B (x_34921.2 == 0)) (ev_pickT h_34952 (by kernel_rfl) (by kernel_rfl)) rfl) ?_
            refine dd_runG 12 13 5 false rfl (b := (!((x_34916.2 == 1) == (x_34921.2 == 1)))) (by kernel_rfl) h_34951 (by kernel_rfl) ?_
            refine ite_both h (fun h_34953 h => ?_) (fun h_34953 h => ?_)
            · refine dd_runG 13 15 12 true rfl (b := (x_34921.2 == 0)) (by kernel_rfl) h_34953 (by kernel_rfl) ?_
              obtain ⟨x_34954, h_34955, h⟩ := bind_some' h
              refine dd_oneG 15 (.call ⟨.value (.func 18), #[(.tmp 88), (.tmp 89)], #[24, 24]⟩) (some 90) 12 true (b := (x_34921.2 == 0)) (by kernel_rfl) (by kernel_rfl) h_34953 (o_callP (g_estoppelref42_Ratios_ok h_34955) (by kernel_rfl) rfl) ?_
              refine dd_runG 16 17 12 true rfl (b := (x_34921.2 == 0)) (by kernel_rfl) h_34953 (by kernel_rfl) ?_
              refine dd_oneG 17 (.pick (.tmp 87) (.tmp 91) (.const (.bool false))) (some 92) 5 false (b := (!((x_34916.2 == 1) == (x_34921.2 == 1)))) (by kernel_rfl) (by kernel_rfl) h_34951 (o_pure (B (!x_34954)) (ev_pickT h_34953 (by kernel_rfl) (by kernel_rfl)) rfl) ?_
              refine dd_one 18 (.pick (.tmp 80) (.const (.bool true)) (.tmp 92)) (some 93) (by kernel_rfl) (o_pure (B (!x_34954)) (ev_pickF h_34951 (by kernel_rfl) (by kernel_rfl)) rfl) ?_
              refine dd_nil 19 rfl ?_
              exact hK_34950 _ _ (Option.some.inj h).symm (to_ren [] (leB rfl) (by kernel_rfl) (by kernel_rfl) (renE_of (by kernel_rfl) (by kernel_rfl)) trivial)
            · refine dd_skip 13 17 12 true rfl (b := (x_34921.2 == 0)) (by kernel_rfl) h_34953 (by kernel_rfl) ?_
              refine dd_oneG 17 (.pick (.tmp 87) (.tmp 91) (.const (.bool false))) (some 92) 5 false (b := (!((x_34916.2 == 1) == (x_34921.2 == 1)))) (by kernel_rfl) (by kernel_rfl) h_34951 (o_pure (B false) (ev_pickF h_34953 (by kernel_rfl) (by kernel_rfl)) rfl) ?_
              refine dd_one 18 (.pick (.tmp 80) (.const (.bool true)) (.tmp 92)) (some 93) (by kernel_rfl) (o_pure (B false) (ev_pickF h_34951 (by kernel_rfl) (by kernel_rfl)) rfl) ?_
              refine dd_nil 19 rfl ?_
              exact hK_34950 _ _ (Option.some.inj h).symm (to_ren [] (leB rfl) (by kernel_rfl) (by kernel_rfl) (renE_of (by kernel_rfl) (by kernel_rfl)) trivial)
          · refine dd_skip 9 11 8 true rfl (b := (x_34916.2 == 0)) (by kernel_rfl) h_34952 (by kernel_rfl) ?_
            refine dd_oneG 11 (.pick (.tmp 83) (.tmp 85) (.const (.bool false))) (some 86) 5 false (b := (!((x_34916.2 == 1) == (x_34921.2 == 1)))) (by kernel_rfl) (by kernel_rfl) h_34951 (o_pure (B false) (ev_pickF h_34952 (by kernel_rfl) (by kernel_rfl)) rfl) ?_
            refine dd_runG 12 13 5 false rfl (b := (!((x_34916.2 == 1) == (x_34921.2 == 1)))) (by kernel_rfl) h_34951 (by kernel_rfl) ?_
            refine dd_skip 13 17 12 true rfl (b := false) (by kernel_rfl) rfl (by kernel_rfl) ?_
            refine dd_runG 17 18 5 false rfl (b := (!((x_34916.2 == 1) == (x_34921.2 == 1)))) (by kernel_rfl) h_34951 (by kernel_rfl) ?_
            refine dd_one 18 (.pick (.tmp 80) (.const (.bool true)) (.tmp 92)) (some 93) (by kernel_rfl) (o_pure (B false) (ev_pickF h_34951 (by kernel_rfl) (by kernel_rfl)) rfl) ?_
            refine dd_nil 19 rfl ?_
            exact hK_34950 _ _ (Option.some.inj h).symm (to_ren [] (leB rfl) (by kernel_rfl) (by kernel_rfl) (renE_of (by kernel_rfl) (by kernel_rfl)) trivial)
      · refine w_seq (fun K hK_34957 => ?_)
        refine w_ite h (by kernel_rfl) (fun h_34958 h => ?_) (fun h_34958 h => ?_)
        · refine w_reg ⟨[(4, B false)], [], 0⟩ (by kernel_rfl) (leB rfl) ?_
          refine w_ret ?_
          obtain rfl := ((Option.some.inj h).symm).symm
          exact ret_leaf (.inl rfl) ⟨[(4, B false)], [], 0⟩ (to_ren [] (leB rfl) (by kernel_rfl) (by kernel_rfl) (renE_of (by kernel_rfl) (by kernel_rfl)) trivial) [B false] (by kernel_rfl) (by kernel_rfl) (leB rfl) (by kernel_rfl) trivial
        · refine w_skip ?_
          refine hK_34957 _ ⟨[(5, B x_34775), (9, I x_34916.2), (11, I x_34921.2), (12, sl 4 cs_Debt x_34926.1), (13, I x_34926.2), (14, sl 4 cs_Debt x_34931.1), (15, I x_34931.2), (16, sl 4 cs_Debt x_34936.1), (17, I x_34936.2), (18, sl 4 cs_Debt x_34941.1), (19, I x_34941.2)], [], 0⟩ (to_trim (by kernel_rfl) (leB rfl)) ?_
          refine w_assoc ?_
          refine w_cut h (fun (e_34963 : Bool) => ⟨[(5, B x_34775), (9, I x_34916.2), (11, I x_34921.2), (16, sl 4 cs_Debt x_34936.1), (17, I x_34936.2), (18, sl 4 cs_Debt x_34941.1), (19, I x_34941.2), (105, B e_34963)], [], 0⟩) (fun o h h_34964 K hK_34965 => ?_) (fun e_34963 h => ?_)
          · refine w_reg0 ?_
            refine dd_run 0 3 rfl (by kernel_rfl) ?_
            refine ite_both h (fun h_34966 h => ?_) (fun h_34966 h => ?_)
            · refine dd_runG 3 5 2 true rfl (b := (x_34926.2 == 0)) (by kernel_rfl) h_34966 (by kernel_rfl) ?_
              refine dd_one 5 (.pick (.tmp 96) (.tmp 98) (.const (.bool false))) (some 99) (by kernel_rfl) (o_pure (B (x_34931.2 == 0)) (ev_pickT h_34966 (by kernel_rfl) (by kernel_rfl)) rfl) ?_
              refine dd_run 6 7 rfl (by kernel_rfl) ?_
              refine ite_both h (fun h_34967 h => ?_) (fun h_34967 h => ?_)
              · refine dd_runG 7 9 6 true rfl (b := (x_34931.2 == 0)) (by kernel_rfl) h_34967 (by kernel_rfl) ?_
                obtain ⟨x_34968, h_34969, h⟩ := bind_some' h
                refine dd_oneG 9 (.call ⟨.value (.func 19), #[(.tmp 101), (.tmp 102)], #[22, 22]⟩) (some 103) 6 true (b := (x_34931.2 == 0)) (by kernel_rfl) (by kernel_rfl) h_34967 (o_callP (g_estoppelref42_Same_ok h_34969) (by kernel_rfl) rfl) ?_
                refine dd_runG 10 11 6 true rfl (b := (x_34931.2 == 0)) (by kernel_rfl) h_34967 (by kernel_rfl) ?_
                refine dd_one 11 (.pick (.tmp 100) (.tmp 104) (.const (.bool false))) (some 105) (by kernel_rfl) (o_pure (B (!x_34968)) (ev_pickT h_34967 (by kernel_rfl) (by kernel_rfl)) rfl) ?_
                refine dd_nil 12 rfl ?_
                exact hK_34965 _ _ (Option.some.inj h).symm (to_ren [] (leB rfl) (by kernel_rfl) (by kernel_rfl) (renE_of (by kernel_rfl) (by kernel_rfl)) trivial)
              · refine dd_skip 7 11 6 true rfl (b := (x_34931.2 == 0)) (by kernel_rfl) h_34967 (by kernel_rfl) ?_
                refine dd_one 11 (.pick (.tmp 100) (.tmp 104) (.const (.bool false))) (some 105) (by kernel_rfl) (o_pure (B false) (ev_pickF h_34967 (by kernel_rfl) (by kernel_rfl)) rfl) ?_
                refine dd_nil 12 rfl ?_
                exact hK_34965 _ _ (Option.some.inj h).symm (to_ren [] (leB rfl) (by kernel_rfl) (by kernel_rfl) (renE_of (by kernel_rfl) (by kernel_rfl)) trivial)
            · refine dd_skip 3 5 2 true rfl (b := (x_34926.2 == 0)) (by kernel_rfl) h_34966 (by kernel_rfl) ?_
              refine dd_one 5 (.pick (.tmp 96) (.tmp 98) (.const (.bool false))) (some 99) (by kernel_rfl) (o_pure (B false) (ev_pickF h_34966 (by kernel_rfl) (by kernel_rfl)) rfl) ?_
              refine dd_run 6 7 rfl (by kernel_rfl) ?_
              refine dd_skip 7 11 6 true rfl (b := false) (by kernel_rfl) rfl (by kernel_rfl) ?_
              refine dd_run 11 12 rfl (by kernel_rfl) ?_
              refine dd_nil 12 rfl ?_
              exact hK_34965 _ _ (Option.some.inj h).symm (to_ren [] (leB rfl) (by kernel_rfl) (by kernel_rfl) (renE_of (by kernel_rfl) (by kernel_rfl)) trivial)
          · refine w_seq (fun K hK_34971 => ?_)
            refine w_ite h (by kernel_rfl) (fun h_34972 h => ?_) (fun h_34972 h => ?_)
            · refine w_reg ⟨[(4, B false)], [], 0⟩ (by kernel_rfl) (leB rfl) ?_
              refine w_ret ?_
              obtain rfl := ((Option.some.inj h).symm).symm
              exact ret_leaf (.inl rfl) ⟨[(4, B false)], [], 0⟩ (to_ren [] (leB rfl) (by kernel_rfl) (by kernel_rfl) (renE_of (by kernel_rfl) (by kernel_rfl)) trivial) [B false] (by kernel_rfl) (by kernel_rfl) (leB rfl) (by kernel_rfl) trivial
            · refine w_skip ?_
              refine hK_34971 _ ⟨[(5, B x_34775), (9, I x_34916.2), (11, I x_34921.2), (16, sl 4 cs_Debt x_34936.1), (17, I x_34936.2), (18, sl 4 cs_Debt x_34941.1), (19, I x_34941.2)], [], 0⟩ (to_trim (by kernel_rfl) (leB rfl)) ?_
              refine w_seq (fun K hK_34985 => w_reg0 ?_)
              refine dd_run 0 2 rfl (by kernel_rfl) ?_
              refine ite_both h (fun h_34986 h => ?_) (fun h_34986 h => ?_)
              · refine dd_runG 2 5 1 true rfl (b := x_34775) (by kernel_rfl) h_34986 (by kernel_rfl) ?_
                refine ite_both h (fun h_34987 h => ?_) (fun h_34987 h => ?_)
                · refine dd_skip 5 7 4 false rfl (b := (x_34936.2 != 0)) (by kernel_rfl) h_34987 (by kernel_rfl) ?_
                  refine dd_oneG 7 (.pick (.tmp 110) (.const (.bool true)) (.tmp 112)) (some 113) 1 true (b := x_34775) (by kernel_rfl) (by kernel_rfl) h_34986 (o_pure (B true) (ev_pickT h_34987 (by kernel_rfl) (by kernel_rfl)) rfl) ?_
                  refine dd_runG 8 9 1 true rfl (b := x_34775) (by kernel_rfl) h_34986 (by kernel_rfl) ?_
                  refine dd_skip 9 12 8 false rfl (b := true) (by kernel_rfl) rfl (by kernel_rfl) ?_
                  refine dd_runG 12 13 1 true rfl (b := x_34775) (by kernel_rfl) h_34986 (by kernel_rfl) ?_
                  refine dd_one 13 (.pick (.tmp 107) (.tmp 118) (.const (.bool false))) (some 119) (by kernel_rfl) (o_pure (B true) (ev_pickT h_34986 (by kernel_rfl) (by kernel_rfl)) rfl) ?_
                  refine dd_run 14 15 rfl (by kernel_rfl) ?_
                  refine dd_runG 15 18 14 true rfl (b := true) (by kernel_rfl) rfl (by kernel_rfl) ?_
                  refine ite_both h (fun h_34988 h => ?_) (fun h_34988 h => ?_)
                  · refine dd_skip 18 20 17 false rfl (b := (x_34916.2 != 0)) (by kernel_rfl) h_34988 (by kernel_rfl) ?_
                    refine dd_oneG 20 (.pick (.tmp 123) (.const (.bool true)) (.tmp 125)) (some 126) 14 true (b := true) (by kernel_rfl) (by kernel_rfl) rfl (o_pure (B true) (ev_pickT h_34988 (by kernel_rfl) (by kernel_rfl)) rfl) ?_
                    refine dd_runG 21 22 14 true rfl (b := true) (by kernel_rfl) rfl (by kernel_rfl) ?_
                    refine dd_skip 22 25 21 false rfl (b := true) (by kernel_rfl) rfl (by kernel_rfl) ?_
                    refine dd_runG 25 26 14 true rfl (b := true) (by kernel_rfl) rfl (by kernel_rfl) ?_
                    refine ops_fin' hK_34985 ⟨[(4, B true)], [], 0⟩ (by kernel_rfl) (leB rfl) ?_
                    refine w_ret ?_
                    obtain rfl := ((Option.some.inj h).symm).symm
                    exact ret_leaf (.inl rfl) ⟨[(4, B true)], [], 0⟩ (to_ren [] (leB rfl) (by kernel_rfl) (by kernel_rfl) (renE_of (by kernel_rfl) (by kernel_rfl)) trivial) [B true] (by kernel_rfl) (by kernel_rfl) (leB rfl) (by kernel_rfl) trivial
                  · refine dd_runG 18 20 17 false rfl (b := (x_34916.2 != 0)) (by kernel_rfl) h_34988 (by kernel_rfl) ?_
                    refine dd_oneG 20 (.pick (.tmp 123) (.const (.bool true)) (.tmp 125)) (some 126) 14 true (b := true) (by kernel_rfl) (by kernel_rfl) rfl (o_pure (B (x_34921.2 != 0)) (ev_pickF h_34988 (by kernel_rfl) (by kernel_rfl)) rfl) ?_
                    refine dd_runG 21 22 14 true rfl (b := true) (by kernel_rfl) rfl (by kernel_rfl) ?_
                    refine ite_both h (fun h_34989 h => ?_) (fun h_34989 h => ?_)
                    · refine dd_skip 22 25 21 false rfl (b := (x_34921.2 != 0)) (by kernel_rfl) h_34989 (by kernel_rfl) ?_
                      refine dd_oneG 25 (.pick (.tmp 127) (.const (.bool true)) (.tmp 130)) (some 131) 14 true (b := true) (by kernel_rfl) (by kernel_rfl) rfl (o_pure (B true) (ev_pickT h_34989 (by kernel_rfl) (by kernel_rfl)) rfl) ?_
                      refine ops_fin' hK_34985 ⟨[(4, B true)], [], 0⟩ (by kernel_rfl) (leB rfl) ?_
                      refine w_ret ?_
                      obtain rfl := ((Option.some.inj h).symm).symm
                      exact ret_leaf (.inl rfl) ⟨[(4, B true)], [], 0⟩ (to_ren [] (leB rfl) (by kernel_rfl) (by kernel_rfl) (renE_of (by kernel_rfl) (by kernel_rfl)) trivial) [B true] (by kernel_rfl) (by kernel_rfl) (leB rfl) (by kernel_rfl) trivial
                    · refine dd_runG 22 25 21 false rfl (b := (x_34921.2 != 0)) (by kernel_rfl) h_34989 (by kernel_rfl) ?_
                      refine dd_oneG 25 (.pick (.tmp 127) (.const (.bool true)) (.tmp 130)) (some 131) 14 true (b := true) (by kernel_rfl) (by kernel_rfl) rfl (o_pure (B (x_34936.2 == x_34941.2)) (ev_pickF h_34989 (by kernel_rfl) (by kernel_rfl)) rfl) ?_
                      refine ops_fin' hK_34985 ⟨[(4, B (x_34936.2 == x_34941.2))], [], 0⟩ (by kernel_rfl) (leB rfl) ?_
                      refine w_ret ?_
                      obtain rfl := ((Option.some.inj h).symm).symm
                      exact ret_leaf (.inl rfl) ⟨[(4, B (x_34936.2 == x_34941.2))], [], 0⟩ (to_ren [] (leB rfl) (by kernel_rfl) (by kernel_rfl) (renE_of (by kernel_rfl) (by kernel_rfl)) trivial) [B (x_34936.2 == x_34941.2)] (by kernel_rfl) (by kernel_rfl) (leB rfl) (by kernel_rfl) trivial
                · refine dd_runG 5 7 4 false rfl (b := (x_34936.2 != 0)) (by kernel_rfl) h_34987 (by kernel_rfl) ?_
                  refine dd_oneG 7 (.pick (.tmp 110) (.const (.bool true)) (.tmp 112)) (some 113) 1 true (b := x_34775) (by kernel_rfl) (by kernel_rfl) h_34986 (o_pure (B (x_34941.2 != 0)) (ev_pickF h_34987 (by kernel_rfl) (by kernel_rfl)) rfl) ?_
                  refine dd_runG 8 9 1 true rfl (b := x_34775) (by kernel_rfl) h_34986 (by kernel_rfl) ?_
                  refine ite_both h (fun h_34990 h => ?_) (fun h_34990 h => ?_)
                  · refine dd_skip 9 12 8 false rfl (b := (x_34941.2 != 0)) (by kernel_rfl) h_34990 (by kernel_rfl) ?_
                    refine dd_oneG 12 (.pick (.tmp 114) (.const (.bool true)) (.tmp 117)) (some 118) 1 true (b := x_34775) (by kernel_rfl) (by kernel_rfl) h_34986 (o_pure (B true) (ev_pickT h_34990 (by kernel_rfl) (by kernel_rfl)) rfl) ?_
                    refine dd_one 13 (.pick (.tmp 107) (.tmp 118) (.const (.bool false))) (some 119) (by kernel_rfl) (o_pure (B true) (ev_pickT h_34986 (by kernel_rfl) (by kernel_rfl)) rfl) ?_
                    refine dd_run 14 15 rfl (by kernel_rfl) ?_
                    refine dd_runG 15 18 14 true rfl (b := true) (by kernel_rfl) rfl (by kernel_rfl) ?_
                    refine ite_both h (fun h_34991 h => ?_) (fun h_34991 h => ?_)
                    · refine dd_skip 18 20 17 false rfl (b := (x_34916.2 != 0)) (by kernel_rfl) h_34991 (by kernel_rfl) ?_
                      refine dd_oneG 20 (.pick (.tmp 123) (.const (.bool true)) (.tmp 125)) (some 126) 14 true (b := true) (by kernel_rfl) (by kernel_rfl) rfl (o_pure (B true) (ev_pickT h_34991 (by kernel_rfl) (by kernel_rfl)) rfl) ?_
                      refine dd_runG 21 22 14 true rfl (b := true) (by kernel_rfl) rfl (by kernel_rfl) ?_
                      refine dd_skip 22 25 21 false rfl (b := true) (by kernel_rfl) rfl (by kernel_rfl) ?_
                      refine dd_runG 25 26 14 true rfl (b := true) (by kernel_rfl) rfl (by kernel_rfl) ?_
                      refine ops_fin' hK_34985 ⟨[(4, B true)], [], 0⟩ (by kernel_rfl) (leB rfl) ?_
                      refine w_ret ?_
                      obtain rfl := ((Option.some.inj h).symm).symm
                      exact ret_leaf (.inl rfl) ⟨[(4, B true)], [], 0⟩ (to_ren [] (leB rfl) (by kernel_rfl) (by kernel_rfl) (renE_of (by kernel_rfl) (by kernel_rfl)) trivial) [B true] (by kernel_rfl) (by kernel_rfl) (leB rfl) (by kernel_rfl) trivial
                    · refine dd_runG 18 20 17 false rfl (b := (x_34916.2 != 0)) (by kernel_rfl) h_34991 (by kernel_rfl) ?_
                      refine dd_oneG 20 (.pick (.tmp 123) (.const (.bool true)) (.tmp 125)) (some 126) 14 true (b := true) (by kernel_rfl) (by kernel_rfl) rfl (o_pure (B (x_34921.2 != 0)) (ev_pickF h_34991 (by kernel_rfl) (by kernel_rfl)) rfl) ?_
                      refine dd_runG 21 22 14 true rfl (b := true) (by kernel_rfl) rfl (by kernel_rfl) ?_
                      refine ite_both h (fun h_34992 h => ?_) (fun h_34992 h => ?_)
                      · refine dd_skip 22 25 21 false rfl (b := (x_34921.2 != 0)) (by kernel_rfl) h_34992 (by kernel_rfl) ?_
                        refine dd_oneG 25 (.pick (.tmp 127) (.const (.bool true)) (.tmp 130)) (some 131) 14 true (b := true) (by kernel_rfl) (by kernel_rfl) rfl (o_pure (B true) (ev_pickT h_34992 (by kernel_rfl) (by kernel_rfl)) rfl) ?_
                        refine ops_fin' hK_34985 ⟨[(4, B true)], [], 0⟩ (by kernel_rfl) (leB rfl) ?_
                        refine w_ret ?_
                        obtain rfl := ((Option.some.inj h).symm).symm
                        exact ret_leaf (.inl rfl) ⟨[(4, B true)], [], 0⟩ (to_ren [] (leB rfl) (by kernel_rfl) (by kernel_rfl) (renE_of (by kernel_rfl) (by kernel_rfl)) trivial) [B true] (by kernel_rfl) (by kernel_rfl) (leB rfl) (by kernel_rfl) trivial
                      · refine dd_runG 22 25 21 false rfl (b := (x_34921.2 != 0)) (by kernel_rfl) h_34992 (by kernel_rfl) ?_
                        refine dd_oneG 25 (.pick (.tmp 127) (.const (.bool true)) (.tmp 130)) (some 131) 14 true (b := true) (by kernel_rfl) (by kernel_rfl) rfl (o_pure (B (x_34936.2 == x_34941.2)) (ev_pickF h_34992 (by kernel_rfl) (by kernel_rfl)) rfl) ?_
                        refine ops_fin' hK_34985 ⟨[(4, B (x_34936.2 == x_34941.2))], [], 0⟩ (by kernel_rfl) (leB rfl) ?_
                        refine w_ret ?_
                        obtain rfl := ((Option.some.inj h).symm).symm
                        exact ret_leaf (.inl rfl) ⟨[(4, B (x_34936.2 == x_34941.2))], [], 0⟩ (to_ren [] (leB rfl) (by kernel_rfl) (by kernel_rfl) (renE_of (by kernel_rfl) (by kernel_rfl)) trivial) [B (x_34936.2 == x_34941.2)] (by kernel_rfl) (by kernel_rfl) (leB rfl) (by kernel_rfl) trivial
                  · refine dd_runG 9 11 8 false rfl (b := (x_34941.2 != 0)) (by kernel_rfl) h_34990 (by kernel_rfl) ?_
                    obtain ⟨x_34993, h_34994, h⟩ := bind_some' h
                    refine dd_oneG 11 (.call ⟨.value (.func 19), #[(.tmp 115), (.tmp 116)], #[22, 22]⟩) (some 117) 8 false (b := (x_34941.2 != 0)) (by kernel_rfl) (by kernel_rfl) h_34990 (o_callP (g_estoppelref42_Same_ok h_34994) (by kernel_rfl) rfl) ?_
                    refine dd_oneG 12 (.pick (.tmp 114) (.const (.bool true)) (.tmp 117)) (some 118) 1 true (b := x_34775) (by kernel_rfl) (by kernel_rfl) h_34986 (o_pure (B x_34993) (ev_pickF h_34990 (by kernel_rfl) (by kernel_rfl)) rfl) ?_
                    refine dd_one 13 (.pick (.tmp 107) (.tmp 118) (.const (.bool false))) (some 119) (by kernel_rfl) (o_pure (B x_34993) (ev_pickT h_34986 (by kernel_rfl) (by kernel_rfl)) rfl) ?_
                    refine dd_run 14 15 rfl (by kernel_rfl) ?_
                    refine ite_both h (fun h_34995 h => ?_) (fun h_34995 h => ?_)
                    · refine dd_runG 15 18 14 true rfl (b := x_34993) (by kernel_rfl) h_34995 (by kernel_rfl) ?_
                      refine ite_both h (fun h_34996 h => ?_) (fun h_34996 h => ?_)
                      · refine dd_skip 18 20 17 false rfl (b := (x_34916.2 != 0)) (by kernel_rfl) h_34996 (by kernel_rfl) ?_
                        refine dd_oneG 20 (.pick (.tmp 123) (.const (.bool true)) (.tmp 125)) (some 126) 14 true (b := x_34993) (by kernel_rfl) (by kernel_rfl) h_34995 (o_pure (B true) (ev_pickT h_34996 (by kernel_rfl) (by kernel_rfl)) rfl) ?_
                        refine dd_runG 21 22 14 true rfl (b := x_34993) (by kernel_rfl) h_34995 (by kernel_rfl) ?_
                        refine dd_skip 22 25 21 false rfl (b := true) (by kernel_rfl) rfl (by kernel_rfl) ?_
                        refine dd_runG 25 26 14 true rfl (b := x_34993) (by kernel_rfl) h_34995 (by kernel_rfl) ?_
                        refine dd_one 26 (.pick (.tmp 120) (.tmp 131) (.const (.bool false))) (some 132) (by kernel_rfl) (o_pure (B true) (ev_pickT h_34995 (by kernel_rfl) (by kernel_rfl)) rfl) ?_
                        refine ops_fin' hK_34985 ⟨[(4, B true)], [], 0⟩ (by kernel_rfl) (leB rfl) ?_
                        refine w_ret ?_
                        obtain rfl := ((Option.some.inj h).symm).symm
                        exact ret_leaf (.inl rfl) ⟨[(4, B true)], [], 0⟩ (to_ren [] (leB rfl) (by kernel_rfl) (by kernel_rfl) (renE_of (by kernel_rfl) (by kernel_rfl)) trivial) [B true] (by kernel_rfl) (by kernel_rfl) (leB rfl) (by kernel_rfl) trivial
                      · refine dd_runG 18 20 17 false rfl (b := (x_34916.2 != 0)) (by kernel_rfl) h_34996 (by kernel_rfl) ?_
                        refine dd_oneG 20 (.pick (.tmp 123) (.const (.bool true)) (.tmp 125)) (some 126) 14 true (b := x_34993) (by kernel_rfl) (by kernel_rfl) h_34995 (o_pure (B (x_34921.2 != 0)) (ev_pickF h_34996 (by kernel_rfl) (by kernel_rfl)) rfl) ?_
                        refine dd_runG 21 22 14 true rfl (b := x_34993) (by kernel_rfl) h_34995 (by kernel_rfl) ?_
                        refine ite_both h (fun h_34997 h => ?_) (fun h_34997 h => ?_)
                        · refine dd_skip 22 25 21 false rfl (b := (x_34921.2 != 0)) (by kernel_rfl) h_34997 (by kernel_rfl) ?_
                          refine dd_oneG 25 (.pick (.tmp 127) (.const (.bool true)) (.tmp 130)) (some 131) 14 true (b := x_34993) (by kernel_rfl) (by kernel_rfl) h_34995 (o_pure (B true) (ev_pickT h_34997 (by kernel_rfl) (by kernel_rfl)) rfl) ?_
                          refine dd_one 26 (.pick (.tmp 120) (.tmp 131) (.const (.bool false))) (some 132) (by kernel_rfl) (o_pure (B true) (ev_pickT h_34995 (by kernel_rfl) (by kernel_rfl)) rfl) ?_
                          refine ops_fin' hK_34985 ⟨[(4, B true)], [], 0⟩ (by kernel_rfl) (leB rfl) ?_
                          refine w_ret ?_
                          obtain rfl := ((Option.some.inj h).symm).symm
                          exact ret_leaf (.inl rfl) ⟨[(4, B true)], [], 0⟩ (to_ren [] (leB rfl) (by kernel_rfl) (by kernel_rfl) (renE_of (by kernel_rfl) (by kernel_rfl)) trivial) [B true] (by kernel_rfl) (by kernel_rfl) (leB rfl) (by kernel_rfl) trivial
                        · refine dd_runG 22 25 21 false rfl (b := (x_34921.2 != 0)) (by kernel_rfl) h_34997 (by kernel_rfl) ?_
                          refine dd_oneG 25 (.pick (.tmp 127) (.const (.bool true)) (.tmp 130)) (some 131) 14 true (b := x_34993) (by kernel_rfl) (by kernel_rfl) h_34995 (o_pure (B (x_34936.2 == x_34941.2)) (ev_pickF h_34997 (by kernel_rfl) (by kernel_rfl)) rfl) ?_
                          refine dd_one 26 (.pick (.tmp 120) (.tmp 131) (.const (.bool false))) (some 132) (by kernel_rfl) (o_pure (B (x_34936.2 == x_34941.2)) (ev_pickT h_34995 (by kernel_rfl) (by kernel_rfl)) rfl) ?_
                          refine ops_fin' hK_34985 ⟨[(4, B (x_34936.2 == x_34941.2))], [], 0⟩ (by kernel_rfl) (leB rfl) ?_
                          refine w_ret ?_
                          obtain rfl := ((Option.some.inj h).symm).symm
                          exact ret_leaf (.inl rfl) ⟨[(4, B (x_34936.2 == x_34941.2))], [], 0⟩ (to_ren [] (leB rfl) (by kernel_rfl) (by kernel_rfl) (renE_of (by kernel_rfl) (by kernel_rfl)) trivial) [B (x_34936.2 == x_34941.2)] (by kernel_rfl) (by kernel_rfl) (leB rfl) (by kernel_rfl) trivial
                    · refine dd_skip 15 18 14 true rfl (b := x_34993) (by kernel_rfl) h_34995 (by kernel_rfl) ?_
                      refine dd_skipU 18 20 17 false rfl (by kernel_rfl) (by kernel_rfl) ?_
                      refine dd_skip 20 22 14 true rfl (b := x_34993) (by kernel_rfl) h_34995 (by kernel_rfl) ?_
                      refine dd_skipU 22 25 21 false rfl (by kernel_rfl) (by kernel_rfl) ?_
                      refine dd_skip 25 26 14 true rfl (b := x_34993) (by kernel_rfl) h_34995 (by kernel_rfl) ?_
                      refine dd_one 26 (.pick (.tmp 120) (.tmp 131) (.const (.bool false))) (some 132) (by kernel_rfl) (o_pure (B false) (ev_pickF h_34995 (by kernel_rfl) (by kernel_rfl)) rfl) ?_
                      refine ops_fin' hK_34985 ⟨[(4, B false)], [], 0⟩ (by kernel_rfl) (leB rfl) ?_
                      refine w_ret ?_
                      obtain rfl := ((Option.some.inj h).symm).symm
                      exact ret_leaf (.inl rfl) ⟨[(4, B false)], [], 0⟩ (to_ren [] (leB rfl) (by kernel_rfl) (by kernel_rfl) (renE_of (by kernel_rfl) (by kernel_rfl)) trivial) [B false] (by kernel_rfl) (by kernel_rfl) (leB rfl) (by kernel_rfl) trivial
              · refine dd_skip 2 5 1 true rfl (b := x_34775) (by kernel_rfl) h_34986 (by kernel_rfl) ?_
                refine dd_skipU 5 7 4 false rfl (by kernel_rfl) (by kernel_rfl) ?_
                refine dd_skip 7 9 1 true rfl (b := x_34775) (by kernel_rfl) h_34986 (by kernel_rfl) ?_
                refine dd_skipU 9 12 8 false rfl (by kernel_rfl) (by kernel_rfl) ?_
                refine dd_skip 12 13 1 true rfl (b := x_34775) (by kernel_rfl) h_34986 (by kernel_rfl) ?_
                refine dd_one 13 (.pick (.tmp 107) (.tmp 118) (.const (.bool false))) (some 119) (by kernel_rfl) (o_pure (B false) (ev_pickF h_34986 (by kernel_rfl) (by kernel_rfl)) rfl) ?_
                refine dd_run 14 15 rfl (by kernel_rfl) ?_
                refine dd_skip 15 18 14 true rfl (b := false) (by kernel_rfl) rfl (by kernel_rfl) ?_
                refine dd_skipU 18 20 17 false rfl (by kernel_rfl) (by kernel_rfl) ?_
                refine dd_skip 20 22 14 true rfl (b := false) (by kernel_rfl) rfl (by kernel_rfl) ?_
                refine dd_skipU 22 25 21 false rfl (by kernel_rfl) (by kernel_rfl) ?_
                refine dd_skip 25 26 14 true rfl (b := false) (by kernel_rfl) rfl (by kernel_rfl) ?_
                refine ops_fin' hK_34985 ⟨[(4, B false)], [], 0⟩ (by kernel_rfl) (leB rfl) ?_
                refine w_ret ?_
                obtain rfl := ((Option.some.inj h).symm).symm
                exact ret_leaf (.inl rfl) ⟨[(4, B false)], [], 0⟩ (to_ren [] (leB rfl) (by kernel_rfl) (by kernel_rfl) (renE_of (by kernel_rfl) (by kernel_rfl)) trivial) [B false] (by kernel_rfl) (by kernel_rfl) (leB rfl) (by kernel_rfl) trivial
end Go.Proofs.Ytgggekjhfdkgkaa.Ab
