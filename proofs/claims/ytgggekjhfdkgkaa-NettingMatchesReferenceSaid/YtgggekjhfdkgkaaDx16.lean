/- Functions of the program as plain functions (printed by wip/dec.py). -/
import Derived.Test.YtgggekjhfdkgkaaDx3
import Derived.Test.YtgggekjhfdkgkaaDx5
import Derived.Test.YtgggekjhfdkgkaaDx7
import Derived.Test.YtgggekjhfdkgkaaDx8
import Derived.Test.YtgggekjhfdkgkaaDx9
import Derived.Test.YtgggekjhfdkgkaaDx10
import Derived.Test.YtgggekjhfdkgkaaDx12
import Derived.Test.YtgggekjhfdkgkaaDx13
import Derived.Test.YtgggekjhfdkgkaaDx14
namespace Go.Proofs.Ytgggekjhfdkgkaa.Ab
open Go Go.RowKit Go.Shelf
/-- estoppel/estoppellaw42.NettingMatchesReference -/
def g_estoppellaw42_NettingMatchesReference (a1 : Int) (a2 : List D.Debt) : Option (Bool) :=
  (g_estoppellaw42_head).bind fun x_35075 =>
  if (decide ((a2.length : Int) > 410)) = true then
  some x_35075
  else
  (g_netting_Positions a1 a2).bind fun x_35084 =>
  (g_estoppelref42_Positions a1 a2).bind fun x_35089 =>
  (g_netting_Pairs a1 a2).bind fun x_35094 =>
  (g_estoppelref42_Pairs a1 a2).bind fun x_35099 =>
  (g_netting_Net a1 a2).bind fun x_35104 =>
  (g_estoppelref42_Net a1 a2).bind fun x_35109 =>
  if x_35075 = true then
  (g_netting_Valid a1 a2).bind fun x_35130 =>
  (g_estoppelref42_Valid a1 a2).bind fun x_35132 =>
  if (x_35130 == x_35132) = true then
  if (x_35084.2 == x_35089.2) = true then
  (g_estoppelref42_Ratios x_35084.1 x_35089.1).bind fun x_35136 =>
  if x_35136 = true then
  if (x_35094.2 == x_35099.2) = true then
  (g_estoppelref42_Same x_35094.1 x_35099.1).bind fun x_35140 =>
  if x_35140 = true then
  if (x_35104.2 == x_35109.2) = true then
  (g_estoppelref42_Same x_35104.1 x_35109.1).bind fun x_35144 =>
  some x_35144
  else
  some false
  else
  some false
  else
  some false
  else
  some false
  else
  some false
  else
  some false
  else
  some false
set_option maxHeartbeats 4000000 in
theorem g_estoppellaw42_NettingMatchesReference_ok {a1 : Int} {a2 : List D.Debt} {res : Bool} (h : g_estoppellaw42_NettingMatchesReference a1 a2 = some res) : SpecK Try.prog [] 3 [I a1, sl 4 cs_Debt a2] [] 0 (B res) [] 0 := by
  refine ⟨spec_of_wp Try.func3 (by kernel_rfl) rfl Try.ntmps3 (by rw [Try.results3]) (leB rfl) ?_, by kernel_rfl, trivial, by kernel_rfl, trivial, by kernel_rfl⟩
  unfold g_estoppellaw42_NettingMatchesReference at h
  refine w_reg ⟨[(0, I a1), (1, sl 4 cs_Debt a2)], [], 0⟩ (by kernel_rfl) (leB rfl) ?_
  refine w_seq (fun K hK_35074 => w_reg0 ?_)
  obtain ⟨x_35075, h_35076, h⟩ := bind_some' h
  refine dd_one 0 (.call ⟨.value (.func 9), #[], #[]⟩) (some 18) (by kernel_rfl) (o_callP (g_estoppellaw42_head_ok h_35076) (by kernel_rfl) rfl) ?_
  refine ops_fin' hK_35074 ⟨[(0, I a1), (1, sl 4 cs_Debt a2), (5, B x_35075)], [], 0⟩ (by kernel_rfl) (leB rfl) ?_
  refine w_assoc ?_
  refine w_seq (fun K hK_35077 => w_reg0 ?_)
  refine dd_run 0 1 rfl (by kernel_rfl) ?_
  refine dd_one 1 (.call ⟨.builtin .len, #[(.tmp 19)], #[22]⟩) (some 20) (by kernel_rfl) (o_pure (I (a2.length : Int)) (ev_len_sl (e := 38) (ty := 0) (k := 4) (c := cs_Debt) (by kernel_rfl) (by kernel_rfl)) rfl) ?_
  refine ops_fin' hK_35077 ⟨[(0, I a1), (1, sl 4 cs_Debt a2), (5, B x_35075), (21, B (decide ((a2.length : Int) > 410)))], [], 0⟩ (by kernel_rfl) (leB rfl) ?_
  refine w_seq (fun K hK_35079 => ?_)
  refine w_ite h (by kernel_rfl) (fun h_35080 h => ?_) (fun h_35080 h => ?_)
  · refine w_reg ⟨[(4, B x_35075)], [], 0⟩ (by kernel_rfl) (leB rfl) ?_
    refine w_ret ?_
    obtain rfl := ((Option.some.inj h).symm).symm
    exact ret_leaf (.inl rfl) ⟨[(4, B x_35075)], [], 0⟩ (to_ren [] (leB rfl) (by kernel_rfl) (by kernel_rfl) (renE_of (by kernel_rfl) (by kernel_rfl)) trivial) [B x_35075] (by kernel_rfl) (by kernel_rfl) (leB rfl) (by kernel_rfl) trivial
  · refine w_skip ?_
    refine hK_35079 _ ⟨[(0, I a1), (1, sl 4 cs_Debt a2), (5, B x_35075)], [], 0⟩ (to_trim (by kernel_rfl) (leB rfl)) ?_
    refine w_seq (fun K hK_35083 => w_reg0 ?_)
    refine dd_run 0 2 rfl (by kernel_rfl) ?_
    obtain ⟨x_35084, h_35085, h⟩ := bind_some' h
    refine dd_one 2 (.call ⟨.value (.func 10), #[(.tmp 24), (.tmp 25)], #[3, 22]⟩) (some 26) (by kernel_rfl) (o_callP (g_netting_Positions_ok h_35085) (by kernel_rfl) rfl) ?_
    refine ops_fin' hK_35083 ⟨[(0, I a1), (1, sl 4 cs_Debt a2), (5, B x_35075), (6, sl 2 cs_Ratio x_35084.1), (7, I x_35084.2)], [], 0⟩ (by kernel_rfl) (leB rfl) ?_
    refine w_seq (fun K hK_35088 => w_reg0 ?_)
    refine dd_run 0 2 rfl (by kernel_rfl) ?_
    obtain ⟨x_35089, h_35090, h⟩ := bind_some' h
    refine dd_one 2 (.call ⟨.value (.func 11), #[(.tmp 30), (.tmp 31)], #[3, 22]⟩) (some 32) (by kernel_rfl) (o_callP (g_estoppelref42_Positions_ok h_35090) (by kernel_rfl) rfl) ?_
    refine ops_fin' hK_35088 ⟨[(0, I a1), (1, sl 4 cs_Debt a2), (5, B x_35075), (6, sl 2 cs_Ratio x_35084.1), (7, I x_35084.2), (8, sl 2 cs_Ratio x_35089.1), (9, I x_35089.2)], [], 0⟩ (by kernel_rfl) (leB rfl) ?_
    refine w_seq (fun K hK_35093 => w_reg0 ?_)
    refine dd_run 0 2 rfl (by kernel_rfl) ?_
    obtain ⟨x_35094, h_35095, h⟩ := bind_some' h
    refine dd_one 2 (.call ⟨.value (.func 12), #[(.tmp 36), (.tmp 37)], #[3, 22]⟩) (some 38) (by kernel_rfl) (o_callP (g_netting_Pairs_ok h_35095) (by kernel_rfl) rfl) ?_
    refine ops_fin' hK_35093 ⟨[(0, I a1), (1, sl 4 cs_Debt a2), (5, B x_35075), (6, sl 2 cs_Ratio x_35084.1), (7, I x_35084.2), (8, sl 2 cs_Ratio x_35089.1), (9, I x_35089.2), (10, sl 4 cs_Debt x_35094.1), (11, I x_35094.2)], [], 0⟩ (by kernel_rfl) (leB rfl) ?_
    refine w_seq (fun K hK_35098 => w_reg0 ?_)
    refine dd_run 0 2 rfl (by kernel_rfl) ?_
    obtain ⟨x_35099, h_35100, h⟩ := bind_some' h
    refine dd_one 2 (.call ⟨.value (.func 13), #[(.tmp 42), (.tmp 43)], #[3, 22]⟩) (some 44) (by kernel_rfl) (o_callP (g_estoppelref42_Pairs_ok h_35100) (by kernel_rfl) rfl) ?_
    refine ops_fin' hK_35098 ⟨[(0, I a1), (1, sl 4 cs_Debt a2), (5, B x_35075), (6, sl 2 cs_Ratio x_35084.1), (7, I x_35084.2), (8, sl 2 cs_Ratio x_35089.1), (9, I x_35089.2), (10, sl 4 cs_Debt x_35094.1), (11, I x_35094.2), (12, sl 4 cs_Debt x_35099.1), (13, I x_35099.2)], [], 0⟩ (by kernel_rfl) (leB rfl) ?_
    refine w_seq (fun K hK_35103 => w_reg0 ?_)
    refine dd_run 0 2 rfl (by kernel_rfl) ?_
    obtain ⟨x_35104, h_35105, h⟩ := bind_some' h
    refine dd_one 2 (.call ⟨.value (.func 14), #[(.tmp 48), (.tmp 49)], #[3, 22]⟩) (some 50) (by kernel_rfl) (o_callP (g_netting_Net_ok h_35105) (by kernel_rfl) rfl) ?_
    refine ops_fin' hK_35103 ⟨[(0, I a1), (1, sl 4 cs_Debt a2), (5, B x_35075), (6, sl 2 cs_Ratio x_35084.1), (7, I x_35084.2), (8, sl 2 cs_Ratio x_35089.1), (9, I x_35089.2), (10, sl 4 cs_Debt x_35094.1), (11, I x_35094.2), (12, sl 4 cs_Debt x_35099.1), (13, I x_35099.2), (14, sl 4 cs_Debt x_35104.1), (15, I x_35104.2)], [], 0⟩ (by kernel_rfl) (leB rfl) ?_
    refine w_seq (fun K hK_35108 => w_reg0 ?_)
    refine dd_run 0 2 rfl (by kernel_rfl) ?_
    obtain ⟨x_35109, h_35110, h⟩ := bind_some' h
    refine dd_one 2 (.call ⟨.value (.func 15), #[(.tmp 54), (.tmp 55)], #[3, 22]⟩) (some 56) (by kernel_rfl) (o_callP (g_estoppelref42_Net_ok h_35110) (by kernel_rfl) rfl) ?_
    refine ops_fin' hK_35108 ⟨[(0, I a1), (1, sl 4 cs_Debt a2), (5, B x_35075), (6, sl 2 cs_Ratio x_35084.1), (7, I x_35084.2), (8, sl 2 cs_Ratio x_35089.1), (9, I x_35089.2), (10, sl 4 cs_Debt x_35094.1), (11, I x_35094.2), (12, sl 4 cs_Debt x_35099.1), (13, I x_35099.2), (14, sl 4 cs_Debt x_35104.1), (15, I x_35104.2), (16, sl 4 cs_Debt x_35109.1), (17, I x_35109.2)], [], 0⟩ (by kernel_rfl) (leB rfl) ?_
    refine w_seq (fun K hK_35128 => w_reg0 ?_)
    refine dd_run 0 2 rfl (by kernel_rfl) ?_
    refine ite_both h (fun h_35129 h => ?_) (fun h_35129 h => ?_)
    · refine dd_runG 2 4 1 true rfl (b := x_35075) (by kernel_rfl) h_35129 (by kernel_rfl) ?_
      obtain ⟨x_35130, h_35131, h⟩ := bind_some' h
      refine dd_oneG 4 (.call ⟨.value (.func 16), #[(.tmp 61), (.tmp 62)], #[3, 22]⟩) (some 63) 1 true (b := x_35075) (by kernel_rfl) (by kernel_rfl) h_35129 (o_callP (g_netting_Valid_ok h_35131) (by kernel_rfl) rfl) ?_
      refine dd_runG 5 7 1 true rfl (b := x_35075) (by kernel_rfl) h_35129 (by kernel_rfl) ?_
      obtain ⟨x_35132, h_35133, h⟩ := bind_some' h
      refine dd_oneG 7 (.call ⟨.value (.func 17), #[(.tmp 64), (.tmp 65)], #[3, 22]⟩) (some 66) 1 true (b := x_35075) (by kernel_rfl) (by kernel_rfl) h_35129 (o_callP (g_estoppelref42_Valid_ok h_35133) (by kernel_rfl) rfl) ?_
      refine dd_runG 8 9 1 true rfl (b := x_35075) (by kernel_rfl) h_35129 (by kernel_rfl) ?_
      refine dd_one 9 (.pick (.tmp 60) (.tmp 67) (.const (.bool false))) (some 68) (by kernel_rfl) (o_pure (B (x_35130 == x_35132)) (ev_pickT h_35129 (by kernel_rfl) (by kernel_rfl)) rfl) ?_
      refine dd_run 10 11 rfl (by kernel_rfl) ?_
      refine ite_both h (fun h_35134 h => ?_) (fun h_35134 h => ?_)
      · refine dd_runG 11 14 10 true rfl (b := (x_35130 == x_35132)) (by kernel_rfl) h_35134 (by kernel_rfl) ?_
        refine dd_one 14 (.pick (.tmp 69) (.tmp 72) (.const (.bool false))) (some 73) (by kernel_rfl) (o_pure (B (x_35084.2 == x_35089.2)) (ev_pickT h_35134 (by kernel_rfl) (by kernel_rfl)) rfl) ?_
        refine dd_run 15 16 rfl (by kernel_rfl) ?_
        refine ite_both h (fun h_35135 h => ?_) (fun h_35135 h => ?_)
        · refine dd_runG 16 18 15 true rfl (b := (x_35084.2 == x_35089.2)) (by kernel_rfl) h_35135 (by kernel_rfl) ?_
          obtain ⟨x_35136, h_35137, h⟩ := bind_some' h
          refine dd_oneG 18 (.call ⟨.value (.func 18), #[(.tmp 75), (.tmp 76)], #[24, 24]⟩) (some 77) 15 true (b := (x_35084.2 == x_35089.2)) (by kernel_rfl) (by kernel_rfl) h_35135 (o_callP (g_estoppelref42_Ratios_ok h_35137) (by kernel_rfl) rfl) ?_
          refine dd_one 19 (.pick (.tmp 74) (.tmp 77) (.const (.bool false))) (some 78) (by kernel_rfl) (o_pure (B x_35136) (ev_pickT h_35135 (by kernel_rfl) (by kernel_rfl)) rfl) ?_
          refine dd_run 20 21 rfl (by kernel_rfl) ?_
          refine ite_both h (fun h_35138 h => ?_) (fun h_35138 h => ?_)
          · refine dd_runG 21 24 20 true rfl (b := x_35136) (by kernel_rfl) h_35138 (by kernel_rfl) ?_
            refine dd_one 24 (.pick (.tmp 79) (.tmp 82) (.const (.bool false))) (some 83) (by kernel_rfl) (o_pure (B (x_35094.2 == x_35099.2)) (ev_pickT h_35138 (by kernel_rfl) (by kernel_rfl)) rfl) ?_
            refine dd_run 25 26 rfl (by kernel_rfl) ?_
            refine ite_both h (fun h_35139 h => ?_) (fun h_35139 h => ?_)
            · refine dd_runG 26 28 25 true rfl (b := (x_35094.2 == x_35099.2)) (by kernel_rfl) h_35139 (by kernel_rfl) ?_
              obtain ⟨x_35140, h_35141, h⟩ := bind_some' h
              refine dd_oneG 28 (.call ⟨.value (.func 19), #[(.tmp 85), (.tmp 86)], #[22, 22]⟩) (some 87) 25 true (b := (x_35094.2 == x_35099.2)) (by kernel_rfl) (by kernel_rfl) h_35139 (o_callP (g_estoppelref42_Same_ok h_35141) (by kernel_rfl) rfl) ?_
              refine dd_one 29 (.pick (.tmp 84) (.tmp 87) (.const (.bool false))) (some 88) (by kernel_rfl) (o_pure (B x_35140) (ev_pickT h_35139 (by kernel_rfl) (by kernel_rfl)) rfl) ?_
              refine dd_run 30 31 rfl (by kernel_rfl) ?_
              refine ite_both h (fun h_35142 h => ?_) (fun h_35142 h => ?_)
              · refine dd_runG 31 34 30 true rfl (b := x_35140) (by kernel_rfl) h_35142 (by kernel_rfl) ?_
                refine dd_one 34 (.pick (.tmp 89) (.tmp 92) (.const (.bool false))) (some 93) (by kernel_rfl) (o_pure (B (x_35104.2 == x_35109.2)) (ev_pickT h_35142 (by kernel_rfl) (by kernel_rfl)) rfl) ?_
                refine dd_run 35 36 rfl (by kernel_rfl) ?_
                refine ite_both h (fun h_35143 h => ?_) (fun h_35143 h => ?_)
                · refine dd_runG 36 38 35 true rfl (b := (x_35104.2 == x_35109.2)) (by kernel_rfl) h_35143 (by kernel_rfl) ?_
                  obtain ⟨x_35144, h_35145, h⟩ := bind_some' h
                  refine dd_oneG 38 (.call ⟨.value (.func 19), #[(.tmp 95), (.tmp 96)], #[22, 22]⟩) (some 97) 35 true (b := (x_35104.2 == x_35109.2)) (by kernel_rfl) (by kernel_rfl) h_35143 (o_callP (g_estoppelref42_Same_ok h_35145) (by kernel_rfl) rfl) ?_
                  refine dd_one 39 (.pick (.tmp 94) (.tmp 97) (.const (.bool false))) (some 98) (by kernel_rfl) (o_pure (B x_35144) (ev_pickT h_35143 (by kernel_rfl) (by kernel_rfl)) rfl) ?_
                  refine ops_fin' hK_35128 ⟨[(4, B x_35144)], [], 0⟩ (by kernel_rfl) (leB rfl) ?_
                  refine w_ret ?_
                  obtain rfl := ((Option.some.inj h).symm).symm
                  exact ret_leaf (.inl rfl) ⟨[(4, B x_35144)], [], 0⟩ (to_ren [] (leB rfl) (by kernel_rfl) (by kernel_rfl) (renE_of (by kernel_rfl) (by kernel_rfl)) trivial) [B x_35144] (by kernel_rfl) (by kernel_rfl) (leB rfl) (by kernel_rfl) trivial
                · refine dd_skip 36 39 35 true rfl (b := (x_35104.2 == x_35109.2)) (by kernel_rfl) h_35143 (by kernel_rfl) ?_
                  refine dd_one 39 (.pick (.tmp 94) (.tmp 97) (.const (.bool false))) (some 98) (by kernel_rfl) (o_pure (B false) (ev_pickF h_35143 (by kernel_rfl) (by kernel_rfl)) rfl) ?_
                  refine ops_fin' hK_35128 ⟨[(4, B false)], [], 0⟩ (by kernel_rfl) (leB rfl) ?_
                  refine w_ret ?_
                  obtain rfl := ((Option.some.inj h).symm).symm
                  exact ret_leaf (.inl rfl) ⟨[(4, B false)], [], 0⟩ (to_ren [] (leB rfl) (by kernel_rfl) (by kernel_rfl) (renE_of (by kernel_rfl) (by kernel_rfl)) trivial) [B false] (by kernel_rfl) (by kernel_rfl) (leB rfl) (by kernel_rfl) trivial
              · refine dd_skip 31 34 30 true rfl (b := x_35140) (by kernel_rfl) h_35142 (by kernel_rfl) ?_
                refine dd_one 34 (.pick (.tmp 89) (.tmp 92) (.const (.bool false))) (some 93) (by kernel_rfl) (o_pure (B false) (ev_pickF h_35142 (by kernel_rfl) (by kernel_rfl)) rfl) ?_
                refine dd_run 35 36 rfl (by kernel_rfl) ?_
                refine dd_skip 36 39 35 true rfl (b := false) (by kernel_rfl) rfl (by kernel_rfl) ?_
                refine ops_fin' hK_35128 ⟨[(4, B false)], [], 0⟩ (by kernel_rfl) (leB rfl) ?_
                refine w_ret ?_
                obtain rfl := ((Option.some.inj h).symm).symm
                exact ret_leaf (.inl rfl) ⟨[(4, B false)], [], 0⟩ (to_ren [] (leB rfl) (by kernel_rfl) (by kernel_rfl) (renE_of (by kernel_rfl) (by kernel_rfl)) trivial) [B false] (by kernel_rfl) (by kernel_rfl) (leB rfl) (by kernel_rfl) trivial
            · refine dd_skip 26 29 25 true rfl (b := (x_35094.2 == x_35099.2)) (by kernel_rfl) h_35139 (by kernel_rfl) ?_
              refine dd_one 29 (.pick (.tmp 84) (.tmp 87) (.const (.bool false))) (some 88) (by kernel_rfl) (o_pure (B false) (ev_pickF h_35139 (by kernel_rfl) (by kernel_rfl)) rfl) ?_
              refine dd_run 30 31 rfl (by kernel_rfl) ?_
              refine dd_skip 31 34 30 true rfl (b := false) (by kernel_rfl) rfl (by kernel_rfl) ?_
              refine dd_run 34 36 rfl (by kernel_rfl) ?_
              refine dd_skip 36 39 35 true rfl (b := false) (by kernel_rfl) rfl (by kernel_rfl) ?_
              refine ops_fin' hK_35128 ⟨[(4, B false)], [], 0⟩ (by kernel_rfl) (leB rfl) ?_
              refine w_ret ?_
              obtain rfl := ((Option.some.inj h).symm).symm
              exact ret_leaf (.inl rfl) ⟨[(4, B false)], [], 0⟩ (to_ren [] (leB rfl) (by kernel_rfl) (by kernel_rfl) (renE_of (by kernel_rfl) (by kernel_rfl)) trivial) [B false] (by kernel_rfl) (by kernel_rfl) (leB rfl) (by kernel_rfl) trivial
          · refine dd_skip 21 24 20 true rfl (b := x_35136) (by kernel_rfl) h_35138 (by kernel_rfl) ?_
            refine dd_one 24 (.pick (.tmp 79) (.tmp 82) (.const (.bool false))) (some 83) (by kernel_rfl) (o_pure (B false) (ev_pickF h_35138 (by kernel_rfl) (by kernel_rfl)) rfl) ?_
            refine dd_run 25 26 rfl (by kernel_rfl) ?_
            refine dd_skip 26 29 25 true rfl (b := false) (by kernel_rfl) rfl (by kernel_rfl) ?_
            refine dd_run 29 31 rfl (by kernel_rfl) ?_
            refine dd_skip 31 34 30 true rfl (b := false) (by kernel_rfl) rfl (by kernel_rfl) ?_
            refine dd_run 34 36 rfl (by kernel_rfl) ?_
            refine dd_skip 36 39 35 true rfl (b := false) (by kernel_rfl) rfl (by kernel_rfl) ?_
            refine ops_fin' hK_35128 ⟨[(4, B false)], [], 0⟩ (by kernel_rfl) (leB rfl) ?_
            refine w_ret ?_
            obtain rfl := ((Option.some.inj h).symm).symm
            exact ret_leaf (.inl rfl) ⟨[(4, B false)], [], 0⟩ (to_ren [] (leB rfl) (by kernel_rfl) (by kernel_rfl) (renE_of (by kernel_rfl) (by kernel_rfl)) trivial) [B false] (by kernel_rfl) (by kernel_rfl) (leB rfl) (by kernel_rfl) trivial
        · refine dd_skip 16 19 15 true rfl (b := (x_35084.2 == x_35089.2)) (by kernel_rfl) h_35135 (by kernel_rfl) ?_
          refine dd_one 19 (.pick (.tmp 74) (.tmp 77) (.const (.bool false))) (some 78) (by kernel_rfl) (o_pure (B false) (ev_pickF h_35135 (by kernel_rfl) (by kernel_rfl)) rfl) ?_
          refine dd_run 20 21 rfl (by kernel_rfl) ?_
          refine dd_skip 21 24 20 true rfl (b := false) (by kernel_rfl) rfl (by kernel_rfl) ?_
          refine dd_run 24 26 rfl (by kernel_rfl) ?_
          refine dd_skip 26 29 25 true rfl (b := false) (by kernel_rfl) rfl (by kernel_rfl) ?_
          refine dd_run 29 31 rfl (by kernel_rfl) ?_
          refine dd_skip 31 34 30 true rfl (b := false) (by kernel_rfl) rfl (by kernel_rfl) ?_
          refine dd_run 34 36 rfl (by kernel_rfl) ?_
          refine dd_skip 36 39 35 true rfl (b := false) (by kernel_rfl) rfl (by kernel_rfl) ?_
          refine ops_fin' hK_35128 ⟨[(4, B false)], [], 0⟩ (by kernel_rfl) (leB rfl) ?_
          refine w_ret ?_
          obtain rfl := ((Option.some.inj h).symm).symm
          exact ret_leaf (.inl rfl) ⟨[(4, B false)], [], 0⟩ (to_ren [] (leB rfl) (by kernel_rfl) (by kernel_rfl) (renE_of (by kernel_rfl) (by kernel_rfl)) trivial) [B false] (by kernel_rfl) (by kernel_rfl) (leB rfl) (by kernel_rfl) trivial
      · refine dd_skip 11 14 10 true rfl (b := (x_35130 == x_35132)) (by kernel_rfl) h_35134 (by kernel_rfl) ?_
        refine dd_one 14 (.pick (.tmp 69) (.tmp 72) (.const (.bool false))) (some 73) (by kernel_rfl) (o_pure (B false) (ev_pickF h_35134 (by kernel_rfl) (by kernel_rfl)) rfl) ?_
        refine dd_run 15 16 rfl (by kernel_rfl) ?_
        refine dd_skip 16 19 15 true rfl (b := false) (by kernel_rfl) rfl (by kernel_rfl) ?_
        refine dd_run 19 21 rfl (by kernel_rfl) ?_
        refine dd_skip 21 24 20 true rfl (b := false) (by kernel_rfl) rfl (by kernel_rfl) ?_
        refine dd_run 24 26 rfl (by kernel_rfl) ?_
        refine dd_skip 26 29 25 true rfl (b := false) (by kernel_rfl) rfl (by kernel_rfl) ?_
        refine dd_run 29 31 rfl (by kernel_rfl) ?_
        refine dd_skip 31 34 30 true rfl (b := false) (by kernel_rfl) rfl (by kernel_rfl) ?_
        refine dd_run 34 36 rfl (by kernel_rfl) ?_
        refine dd_skip 36 39 35 true rfl (b := false) (by kernel_rfl) rfl (by kernel_rfl) ?_
        refine ops_fin' hK_35128 ⟨[(4, B false)], [], 0⟩ (by kernel_rfl) (leB rfl) ?_
        refine w_ret ?_
        obtain rfl := ((Option.some.inj h).symm).symm
        exact ret_leaf (.inl rfl) ⟨[(4, B false)], [], 0⟩ (to_ren [] (leB rfl) (by kernel_rfl) (by kernel_rfl) (renE_of (by kernel_rfl) (by kernel_rfl)) trivial) [B false] (by kernel_rfl) (by kernel_rfl) (leB rfl) (by kernel_rfl) trivial
    · refine dd_skip 2 9 1 true rfl (b := x_35075) (by kernel_rfl) h_35129 (by kernel_rfl) ?_
      refine dd_one 9 (.pick (.tmp 60) (.tmp 67) (.const (.bool false))) (some 68) (by kernel_rfl) (o_pure (B false) (ev_pickF h_35129 (by kernel_rfl) (by kernel_rfl)) rfl) ?_
      refine dd_run 10 11 rfl (by kernel_rfl) ?_
      refine dd_skip 11 14 10 true rfl (b := false) (by kernel_rfl) rfl (by kernel_rfl) ?_
      refine dd_run 14 16 rfl (by kernel_rfl) ?_
      refine dd_skip 16 19 15 true rfl (b := false) (by kernel_rfl) rfl (by kernel_rfl) ?_
      refine dd_run 19 21 rfl (by kernel_rfl) ?_
      refine dd_skip 21 24 20 true rfl (b := false) (by kernel_rfl) rfl (by kernel_rfl) ?_
      refine dd_run 24 26 rfl (by kernel_rfl) ?_
      refine dd_skip 26 29 25 true rfl (b := false) (by kernel_rfl) rfl (by kernel_rfl) ?_
      refine dd_run 29 31 rfl (by kernel_rfl) ?_
      refine dd_skip 31 34 30 true rfl (b := false) (by kernel_rfl) rfl (by kernel_rfl) ?_
      refine dd_run 34 36 rfl (by kernel_rfl) ?_
      refine dd_skip 36 39 35 true rfl (b := false) (by kernel_rfl) rfl (by kernel_rfl) ?_
      refine ops_fin' hK_35128 ⟨[(4, B false)], [], 0⟩ (by kernel_rfl) (leB rfl) ?_
      refine w_ret ?_
      obtain rfl := ((Option.some.inj h).symm).symm
      exact ret_leaf (.inl rfl) ⟨[(4, B false)], [], 0⟩ (to_ren [] (leB rfl) (by kernel_rfl) (by kernel_rfl) (renE_of (by kernel_rfl) (by kernel_rfl)) trivial) [B false] (by kernel_rfl) (by kernel_rfl) (leB rfl) (by kernel_rfl) trivial
end Go.Proofs.Ytgggekjhfdkgkaa.Ab
