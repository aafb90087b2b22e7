/- Functions of the program as plain functions (printed by wip/dec.py). -/
import Derived.Test.YtdfokoapenhalaaDoorDq1
import Derived.Test.YtdfokoapenhalaaDoorDq6
import Derived.Test.YtdfokoapenhalaaDoorDq7
import Derived.Test.YtdfokoapenhalaaDoorDq17
namespace Go.Proofs.YtdfokoapenhalaaDoor.Ab
open Go Go.RowKit Go.Shelf
/-- estoppel/estoppellaw04.QuantityCovers -/
def g_estoppellaw04_QuantityCovers (a1 : List D.Ratio) (a2 : List D.Ratio) (a3 : List D.Ratio) (a4 : List D.Ratio) : Option (Bool) :=
  (g_estoppellaw04_head).bind fun x_44762 =>
  bindF (ρ := Bool) (
  if (decide ((a1.length : Int) > 60)) = true then
  some (.inl true)
  else
  if (decide ((a2.length : Int) > 60)) = true then
  some (.inl true)
  else
  if (decide ((a3.length : Int) > 60)) = true then
  some (.inl true)
  else
  (g_quantity_Covers a1 a1).bind fun x_44781 =>
  if (!x_44781) = true then
  some (.inl true)
  else
  (g_quantity_Covers a2 a2).bind fun x_44784 =>
  if (!x_44784) = true then
  some (.inl true)
  else
  (g_quantity_Covers a3 a3).bind fun x_44787 =>
  some (.inl (!x_44787))) (fun (e_44775 : Bool) =>
  if e_44775 = true then
  some x_44762
  else
  (g_quantity_Covers a1 a2).bind fun x_44795 =>
  bindF (ρ := Bool) (
  if x_44795 = true then
  (g_quantity_Covers a2 a3).bind fun x_44825 =>
  if x_44825 = true then
  (g_quantity_Covers a1 a3).bind fun x_44828 =>
  if (!x_44828) = true then
  some (.inl true)
  else
  (g_quantity_Covers a2 a1).bind fun x_44831 =>
  if x_44831 = true then
  (g_estoppelref04_Same a1 a2).bind fun x_44834 =>
  if (!x_44834) = true then
  some (.inl true)
  else
  if ((a1.length : Int) != (a2.length : Int)) = true then
  some (.inl x_44795)
  else
  some (.inl false)
  else
  if ((a1.length : Int) != (a2.length : Int)) = true then
  some (.inl x_44795)
  else
  some (.inl false)
  else
  (g_quantity_Covers a2 a1).bind fun x_44839 =>
  if x_44839 = true then
  (g_estoppelref04_Same a1 a2).bind fun x_44842 =>
  if (!x_44842) = true then
  some (.inl true)
  else
  if ((a1.length : Int) != (a2.length : Int)) = true then
  some (.inl x_44795)
  else
  some (.inl false)
  else
  if ((a1.length : Int) != (a2.length : Int)) = true then
  some (.inl x_44795)
  else
  some (.inl false)
  else
  if ((a1.length : Int) != (a2.length : Int)) = true then
  some (.inl x_44795)
  else
  some (.inl false)) (fun (e_44821 : Bool) =>
  if e_44821 = true then
  some false
  else
  bindF (ρ := Bool) (
  if ((a1.length : Int) != (a2.length : Int)) = true then
  some (.inl true)
  else
  some (.inl ((a4.length : Int) != (a1.length : Int)))) (fun (e_44852 : Bool) =>
  if e_44852 = true then
  some x_44762
  else
  bindF (ρ := List D.Ratio × List D.Ratio) (
  loopO (σ := List D.Ratio × List D.Ratio × Int) (fun s_45622 =>
  if (decide (s_45622.2.2 < (a1.length : Int))) = true then
  (getI a1 s_45622.2.2).bind fun x_45720 =>
  (getI a4 s_45622.2.2).bind fun x_45724 =>
  (g_ratio_Add x_45720 x_45724).bind fun x_45726 =>
  (getI a2 s_45622.2.2).bind fun x_45745 =>
  (getI a4 s_45622.2.2).bind fun x_45749 =>
  (g_ratio_Add x_45745 x_45749).bind fun x_45751 =>
  bindF (ρ := List D.Ratio × List D.Ratio × Bool) (
  if (x_45726.2 != 0) = true then
  some (.inl (s_45622.1, s_45622.2.1, true))
  else
  some (.inl (s_45622.1, s_45622.2.1, (x_45751.2 != 0)))) (fun (e_45754 : List D.Ratio × List D.Ratio × Bool) =>
  if e_45754.2.2 = true then
  some (.inr (.inr x_44762))
  else
  (appO 16 e_45754.1 [x_45726.1]).bind fun x_45770 =>
  (appO 16 e_45754.2.1 [x_45751.1]).bind fun x_45774 =>
  some (.inl (x_45770, x_45774, (IntKind.i64.wrap (s_45622.2.2 + 1)))))
  else
  some (.inr (.inl (s_45622.1, s_45622.2.1)))) ([], [], 0)) (fun (e_45315 : List D.Ratio × List D.Ratio) =>
  if x_44762 = true then
  (g_quantity_Covers e_45315.1 e_45315.2).bind fun x_45781 =>
  some (x_45781 == x_44795)
  else
  some false))))
set_option maxHeartbeats 4000000 in
theorem g_estoppellaw04_QuantityCovers_ok {a1 : List D.Ratio} {a2 : List D.Ratio} {a3 : List D.Ratio} {a4 : List D.Ratio} {res : Bool} (h : g_estoppellaw04_QuantityCovers a1 a2 a3 a4 = some res) : SpecK Tryd.prog [] 10 [sl 2 cs_Ratio a1, sl 2 cs_Ratio a2, sl 2 cs_Ratio a3, sl 2 cs_Ratio a4] [] 0 (B res) [] 0 := by
  refine ⟨spec_of_wp Tryd.func10 (by kernel_rfl) rfl Tryd.ntmps10 (by rw [Tryd.results10]) (leB rfl) ?_, by kernel_rfl, trivial, by kernel_rfl, trivial, by kernel_rfl⟩
  unfold g_estoppellaw04_QuantityCovers at h
  refine w_reg ⟨[(0, sl 2 cs_Ratio a1), (1, sl 2 cs_Ratio a2), (2, sl 2 cs_Ratio a3), (3, sl 2 cs_Ratio a4)], [], 0⟩ (by kernel_rfl) (leB rfl) ?_
  refine w_seq (fun K hK_44761 => w_reg0 ?_)
  obtain ⟨x_44762, h_44763, h⟩ := bind_some' h
  refine dd_one 0 (.call ⟨.value (.func 11), #[], #[]⟩) (some 18) (by kernel_rfl) (o_callP (g_estoppellaw04_head_ok h_44763) (by kernel_rfl) rfl) ?_
  refine ops_fin' hK_44761 ⟨[(0, sl 2 cs_Ratio a1), (1, sl 2 cs_Ratio a2), (2, sl 2 cs_Ratio a3), (3, sl 2 cs_Ratio a4), (9, B x_44762)], [], 0⟩ (by kernel_rfl) (leB rfl) ?_
  refine w_assoc ?_
  refine w_cut h (fun (e_44775 : Bool) => ⟨[(0, sl 2 cs_Ratio a1), (1, sl 2 cs_Ratio a2), (2, sl 2 cs_Ratio a3), (3, sl 2 cs_Ratio a4), (9, B x_44762), (49, B e_44775)], [], 0⟩) (fun o h h_44776 K hK_44777 => ?_) (fun e_44775 h => ?_)
  · refine w_reg0 ?_
    refine dd_run 0 1 rfl (by kernel_rfl) ?_
    refine dd_one 1 (.call ⟨.builtin .len, #[(.tmp 19)], #[24]⟩) (some 20) (by kernel_rfl) (o_pure (I (a1.length : Int)) (ev_len_sl (e := 31) (ty := 0) (k := 2) (c := cs_Ratio) (by kernel_rfl) (by kernel_rfl)) rfl) ?_
    refine dd_run 2 4 rfl (by kernel_rfl) ?_
    refine ite_both h (fun h_44778 h => ?_) (fun h_44778 h => ?_)
    · refine dd_skip 4 7 3 false rfl (b := (decide ((a1.length : Int) > 60))) (by kernel_rfl) h_44778 (by kernel_rfl) ?_
      refine dd_one 7 (.pick (.tmp 22) (.const (.bool true)) (.tmp 25)) (some 26) (by kernel_rfl) (o_pure (B true) (ev_pickT h_44778 (by kernel_rfl) (by kernel_rfl)) rfl) ?_
      refine dd_run 8 9 rfl (by kernel_rfl) ?_
      refine dd_skip 9 12 8 false rfl (b := true) (by kernel_rfl) rfl (by kernel_rfl) ?_
      refine dd_run 12 14 rfl (by kernel_rfl) ?_
      refine dd_skip 14 18 13 false rfl (b := true) (by kernel_rfl) rfl (by kernel_rfl) ?_
      refine dd_run 18 20 rfl (by kernel_rfl) ?_
      refine dd_skip 20 24 19 false rfl (b := true) (by kernel_rfl) rfl (by kernel_rfl) ?_
      refine dd_run 24 26 rfl (by kernel_rfl) ?_
      refine dd_skip 26 30 25 false rfl (b := true) (by kernel_rfl) rfl (by kernel_rfl) ?_
      refine dd_run 30 31 rfl (by kernel_rfl) ?_
      refine dd_nil 31 rfl ?_
      exact hK_44777 _ _ (Option.some.inj h).symm (to_ren [] (leB rfl) (by kernel_rfl) (by kernel_rfl) (renE_of (by kernel_rfl) (by kernel_rfl)) trivial)
    · refine dd_runG 4 5 3 false rfl (b := (decide ((a1.length : Int) > 60))) (by kernel_rfl) h_44778 (by kernel_rfl) ?_
      refine dd_oneG 5 (.call ⟨.builtin .len, #[(.tmp 23)], #[24]⟩) (some 24) 3 false (b := (decide ((a1.length : Int) > 60))) (by kernel_rfl) (by kernel_rfl) h_44778 (o_pure (I (a2.length : Int)) (ev_len_sl (e := 31) (ty := 0) (k := 2) (c := cs_Ratio) (by kernel_rfl) (by kernel_rfl)) rfl) ?_
      refine dd_runG 6 7 3 false rfl (b := (decide ((a1.length : Int) > 60))) (by kernel_rfl) h_44778 (by kernel_rfl) ?_
      refine dd_one 7 (.pick (.tmp 22) (.const (.bool true)) (.tmp 25)) (some 26) (by kernel_rfl) (o_pure (B (decide ((a2.length : Int) > 60))) (ev_pickF h_44778 (by kernel_rfl) (by kernel_rfl)) rfl) ?_
      refine dd_run 8 9 rfl (by kernel_rfl) ?_
      refine ite_both h (fun h_44779 h => ?_) (fun h_44779 h => ?_)
      · refine dd_skip 9 12 8 false rfl (b := (decide ((a2.length : Int) > 60))) (by kernel_rfl) h_44779 (by kernel_rfl) ?_
        refine dd_one 12 (.pick (.tmp 27) (.const (.bool true)) (.tmp 30)) (some 31) (by kernel_rfl) (o_pure (B true) (ev_pickT h_44779 (by kernel_rfl) (by kernel_rfl)) rfl) ?_
        refine dd_run 13 14 rfl (by kernel_rfl) ?_
        refine dd_skip 14 18 13 false rfl (b := true) (by kernel_rfl) rfl (by kernel_rfl) ?_
        refine dd_run 18 20 rfl (by kernel_rfl) ?_
        refine dd_skip 20 24 19 false rfl (b := true) (by kernel_rfl) rfl (by kernel_rfl) ?_
        refine dd_run 24 26 rfl (by kernel_rfl) ?_
        refine dd_skip 26 30 25 false rfl (b := true) (by kernel_rfl) rfl (by kernel_rfl) ?_
        refine dd_run 30 31 rfl (by kernel_rfl) ?_
        refine dd_nil 31 rfl ?_
        exact hK_44777 _ _ (Option.some.inj h).symm (to_ren [] (leB rfl) (by kernel_rfl) (by kernel_rfl) (renE_of (by kernel_rfl) (by kernel_rfl)) trivial)
      · refine dd_runG 9 10 8 false rfl (b := (decide ((a2.length : Int) > 60))) (by kernel_rfl) h_44779 (by kernel_rfl) ?_
        refine dd_oneG 10 (.call ⟨.builtin .len, #[(.tmp 28)], #[24]⟩) (some 29) 8 false (b := (decide ((a2.length : Int) > 60))) (by kernel_rfl) (by kernel_rfl) h_44779 (o_pure (I (a3.length : Int)) (ev_len_sl (e := 31) (ty := 0) (k := 2) (c := cs_Ratio) (by kernel_rfl) (by kernel_rfl)) rfl) ?_
        refine dd_runG 11 12 8 false rfl (b := (decide ((a2.length : Int) > 60))) (by kernel_rfl) h_44779 (by kernel_rfl) ?_
        refine dd_one 12 (.pick (.tmp 27) (.const (.bool true)) (.tmp 30)) (some 31) (by kernel_rfl) (o_pure (B (decide ((a3.length : Int) > 60))) (ev_pickF h_44779 (by kernel_rfl) (by kernel_rfl)) rfl) ?_
        refine dd_run 13 14 rfl (by kernel_rfl) ?_
        refine ite_both h (fun h_44780 h => ?_) (fun h_44780 h => ?_)
        · refine dd_skip 14 18 13 false rfl (b := (decide ((a3.length : Int) > 60))) (by kernel_rfl) h_44780 (by kernel_rfl) ?_
          refine dd_one 18 (.pick (.tmp 32) (.const (.bool true)) (.tmp 36)) (some 37) (by kernel_rfl) (o_pure (B true) (ev_pickT h_44780 (by kernel_rfl) (by kernel_rfl)) rfl) ?_
          refine dd_run 19 20 rfl (by kernel_rfl) ?_
          refine dd_skip 20 24 19 false rfl (b := true) (by kernel_rfl) rfl (by kernel_rfl) ?_
          refine dd_run 24 26 rfl (by kernel_rfl) ?_
          refine dd_skip 26 30 25 false rfl (b := true) (by kernel_rfl) rfl (by kernel_rfl) ?_
          refine dd_run 30 31 rfl (by kernel_rfl) ?_
          refine dd_nil 31 rfl ?_
          exact hK_44777 _ _ (Option.some.inj h).symm (to_ren [] (leB rfl) (by kernel_rfl) (by kernel_rfl) (renE_of (by kernel_rfl) (by kernel_rfl)) trivial)
        · refine dd_runG 14 16 13 false rfl (b := (decide ((a3.length : Int) > 60))) (by kernel_rfl) h_44780 (by kernel_rfl) ?_
          obtain ⟨x_44781, h_44782, h⟩ := bind_some' h
          refine dd_oneG 16 (.call ⟨.value (.func 15), #[(.tmp 33), (.tmp 34)], #[24, 24]⟩) (some 35) 13 false (b := (decide ((a3.length : Int) > 60))) (by kernel_rfl) (by kernel_rfl) h_44780 (o_callP (g_quantity_Covers_ok h_44782) (by kernel_rfl) rfl) ?_
          refine dd_runG 17 18 13 false rfl (b := (decide ((a3.length : Int) > 60))) (by kernel_rfl) h_44780 (by kernel_rfl) ?_
          refine dd_one 18 (.pick (.tmp 32) (.const (.bool true)) (.tmp 36)) (some 37) (by kernel_rfl) (o_pure (B (!x_44781)) (ev_pickF h_44780 (by kernel_rfl) (by kernel_rfl)) rfl) ?_
          refine dd_run 19 20 rfl (by kernel_rfl) ?_
          refine ite_both h (fun h_44783 h => ?_) (fun h_44783 h => ?_)
          · refine dd_skip 20 24 19 false rfl (b := (!x_44781)) (by kernel_rfl) h_44783 (by kernel_rfl) ?_
            refine dd_one 24 (.pick (.tmp 38) (.const (.bool true)) (.tmp 42)) (some 43) (by kernel_rfl) (o_pure (B true) (ev_pickT h_44783 (by kernel_rfl) (by kernel_rfl)) rfl) ?_
            refine dd_run 25 26 rfl (by kernel_rfl) ?_
            refine dd_skip 26 30 25 false rfl (b := true) (by kernel_rfl) rfl (by kernel_rfl) ?_
            refine dd_run 30 31 rfl (by kernel_rfl) ?_
            refine dd_nil 31 rfl ?_
            exact hK_44777 _ _ (Option.some.inj h).symm (to_ren [] (leB rfl) (by kernel_rfl) (by kernel_rfl) (renE_of (by kernel_rfl) (by kernel_rfl)) trivial)
          · refine dd_runG 20 22 19 false rfl (b := (!x_44781)) (by kernel_rfl) h_44783 (by kernel_rfl) ?_
            obtain ⟨x_44784, h_44785, h⟩ := bind_some' h
            refine dd_oneG 22 (.call ⟨.value (.func 15), #[(.tmp 39), (.tmp 40)], #[24, 24]⟩) (some 41) 19 false (b := (!x_44781)) (by kernel_rfl) (by kernel_rfl) h_44783 (o_callP (g_quantity_Covers_ok h_44785) (by kernel_rfl) rfl) ?_
            refine dd_runG 23 24 19 false rfl (b := (!x_44781)) (by kernel_rfl) h_44783 (by kernel_rfl) ?_
            refine dd_one 24 (.pick (.tmp 38) (.const (.bool true)) (.tmp 42)) (some 43) (by kernel_rfl) (o_pure (B (!x_44784)) (ev_pickF h_44783 (by kernel_rfl) (by kernel_rfl)) rfl) ?_
            refine dd_run 25 26 rfl (by kernel_rfl) ?_
            refine ite_both h (fun h_44786 h => ?_) (fun h_44786 h => ?_)
            · refine dd_skip 26 30 25 false rfl (b := (!x_44784)) (by kernel_rfl) h_44786 (by kernel_rfl) ?_
              refine dd_one 30 (.pick (.tmp 44) (.const (.bool true)) (.tmp 48)) (some 49) (by kernel_rfl) (o_pure (B true) (ev_pickT h_44786 (by kernel_rfl) (by kernel_rfl)) rfl) ?_
              refine dd_nil 31 rfl ?_
              exact hK_44777 _ _ (Option.some.inj h).symm (to_ren [] (leB rfl) (by kernel_rfl) (by kernel_rfl) (renE_of (by kernel_rfl) (by kernel_rfl)) trivial)
            · refine dd_runG 26 28 25 false rfl (b := (!x_44784)) (by kernel_rfl) h_44786 (by kernel_rfl) ?_
              obtain ⟨x_44787, h_44788, h⟩ := bind_some' h
              refine dd_oneG 28 (.call ⟨.value (.func 15), #[(.tmp 45), (.tmp 46)], #[24, 24]⟩) (some 47) 25 false (b := (!x_44784)) (by kernel_rfl) (by kernel_rfl) h_44786 (o_callP (g_quantity_Covers_ok h_44788) (by kernel_rfl) rfl) ?_
              refine dd_runG 29 30 25 false rfl (b := (!x_44784)) (by kernel_rfl) h_44786 (by kernel_rfl) ?_
              refine dd_one 30 (.pick (.tmp 44) (.const (.bool true)) (.tmp 48)) (some 49) (by kernel_rfl) (o_pure (B (!x_44787)) (ev_pickF h_44786 (by kernel_rfl) (by kernel_rfl)) rfl) ?_
              refine dd_nil 31 rfl ?_
              exact hK_44777 _ _ (Option.some.inj h).symm (to_ren [] (leB rfl) (by kernel_rfl) (by kernel_rfl) (renE_of (by kernel_rfl) (by kernel_rfl)) trivial)
  · refine w_seq (fun K hK_44790 => ?_)
    refine w_ite h (by kernel_rfl) (fun h_44791 h => ?_) (fun h_44791 h => ?_)
    · refine w_reg ⟨[(8, B x_44762)], [], 0⟩ (by kernel_rfl) (leB rfl) ?_
      refine w_ret ?_
      obtain rfl := ((Option.some.inj h).symm).symm
      exact ret_leaf (.inl rfl) ⟨[(8, B x_44762)], [], 0⟩ (to_ren [] (leB rfl) (by kernel_rfl) (by kernel_rfl) (renE_of (by kernel_rfl) (by kernel_rfl)) trivial) [B x_44762] (by kernel_rfl) (by kernel_rfl) (leB rfl) (by kernel_rfl) trivial
    · refine w_skip ?_
      refine hK_44790 _ ⟨[(0, sl 2 cs_Ratio a1), (1, sl 2 cs_Ratio a2), (2, sl 2 cs_Ratio a3), (3, sl 2 cs_Ratio a4), (9, B x_44762)], [], 0⟩ (to_trim (by kernel_rfl) (leB rfl)) ?_
      refine w_seq (fun K hK_44794 => w_reg0 ?_)
      refine dd_run 0 2 rfl (by kernel_rfl) ?_
      obtain ⟨x_44795, h_44796, h⟩ := bind_some' h
      refine dd_one 2 (.call ⟨.value (.func 15), #[(.tmp 51), (.tmp 52)], #[24, 24]⟩) (some 53) (by kernel_rfl) (o_callP (g_quantity_Covers_ok h_44796) (by kernel_rfl) rfl) ?_
      refine ops_fin' hK_44794 ⟨[(0, sl 2 cs_Ratio a1), (1, sl 2 cs_Ratio a2), (2, sl 2 cs_Ratio a3), (3, sl 2 cs_Ratio a4), (9, B x_44762), (10, B x_44795)], [], 0⟩ (by kernel_rfl) (leB rfl) ?_
      refine w_assoc ?_
      refine w_cut h (fun (e_44821 : Bool) => ⟨[(0, sl 2 cs_Ratio a1), (1, sl 2 cs_Ratio a2), (3, sl 2 cs_Ratio a4), (9, B x_44762), (10, B x_44795), (89, B e_44821)], [], 0⟩) (fun o h h_44822 K hK_44823 => ?_) (fun e_44821 h => ?_)
      · refine w_reg0 ?_
        refine dd_run 0 2 rfl (by kernel_rfl) ?_
        refine ite_both h (fun h_44824 h => ?_) (fun h_44824 h => ?_)
        · refine dd_runG 2 4 1 true rfl (b := x_44795) (by kernel_rfl) h_44824 (by kernel_rfl) ?_
          obtain ⟨x_44825, h_44826, h⟩ := bind_some' h
          refine dd_oneG 4 (.call ⟨.value (.func 15), #[(.tmp 56), (.tmp 57)], #[24, 24]⟩) (some 58) 1 true (b := x_44795) (by kernel_rfl) (by kernel_rfl) h_44824 (o_callP (g_quantity_Covers_ok h_44826) (by kernel_rfl) rfl) ?_
          refine dd_one 5 (.pick (.tmp 55) (.tmp 58) (.const (.bool false))) (some 59) (by kernel_rfl) (o_pure (B x_44825) (ev_pickT h_44824 (by kernel_rfl) (by kernel_rfl)) rfl) ?_
          refine dd_run 6 7 rfl (by kernel_rfl) ?_
          refine ite_both h (fun h_44827 h => ?_) (fun h_44827 h => ?_)
          · refine dd_runG 7 9 6 true rfl (b := x_44825) (by kernel_rfl) h_44827 (by kernel_rfl) ?_
            obtain ⟨x_44828, h_44829, h⟩ := bind_some' h
            refine dd_oneG 9 (.call ⟨.value (.func 15), #[(.tmp 61), (.tmp 62)], #[24, 24]⟩) (some 63) 6 true (b := x_44825) (by kernel_rfl) (by kernel_rfl) h_44827 (o_callP (g_quantity_Covers_ok h_44829) (by kernel_rfl) rfl) ?_
            refine dd_runG 10 11 6 true rfl (b := x_44825) (by kernel_rfl) h_44827 (by kernel_rfl) ?_
            refine dd_one 11 (.pick (.tmp 60) (.tmp 64) (.const (.bool false))) (some 65) (by kernel_rfl) (o_pure (B (!x_44828)) (ev_pickT h_44827 (by kernel_rfl) (by kernel_rfl)) rfl) ?_
            refine dd_run 12 13 rfl (by kernel_rfl) ?_
            refine ite_both h (fun h_44830 h => ?_) (fun h_44830 h => ?_)
            · refine dd_skip 13 15 12 false rfl (b := (!x_44828)) (by kernel_rfl) h_44830 (by kernel_rfl) ?_
              refine dd_skipU 15 18 14 true rfl (by kernel_rfl) (by kernel_rfl) ?_
              refine dd_skip 18 20 12 false rfl (b := (!x_44828)) (by kernel_rfl) h_44830 (by kernel_rfl) ?_
              refine dd_skipU 20 24 19 true rfl (by kernel_rfl) (by kernel_rfl) ?_
              refine dd_skip 24 25 12 false rfl (b := (!x_44828)) (by kernel_rfl) h_44830 (by kernel_rfl) ?_
              refine dd_one 25 (.pick (.tmp 66) (.const (.bool true)) (.tmp 78)) (some 79) (by kernel_rfl) (o_pure (B true) (ev_pickT h_44830 (by kernel_rfl) (by kernel_rfl)) rfl) ?_
              refine dd_run 26 27 rfl (by kernel_rfl) ?_
              refine dd_skip 27 33 26 false rfl (b := true) (by kernel_rfl) rfl (by kernel_rfl) ?_
              refine dd_skipU 33 34 32 true rfl (by kernel_rfl) (by kernel_rfl) ?_
              refine dd_skip 34 35 26 false rfl (b := true) (by kernel_rfl) rfl (by kernel_rfl) ?_
              refine dd_run 35 36 rfl (by kernel_rfl) ?_
              refine dd_nil 36 rfl ?_
              exact hK_44823 _ _ (Option.some.inj h).symm (to_ren [] (leB rfl) (by kernel_rfl) (by kernel_rfl) (renE_of (by kernel_rfl) (by kernel_rfl)) trivial)
            · refine dd_runG 13 15 12 false rfl (b := (!x_44828)) (by kernel_rfl) h_44830 (by kernel_rfl) ?_
              refine dd_runG 15 17 14 true rfl (b := x_44795) (by kernel_rfl) h_44824 (by kernel_rfl) ?_
              obtain ⟨x_44831, h_44832, h⟩ := bind_some' h
              refine dd_oneG 17 (.call ⟨.value (.func 15), #[(.tmp 69), (.tmp 70)], #[24, 24]⟩) (some 71) 14 true (b := x_44795) (by kernel_rfl) (by kernel_rfl) h_44824 (o_callP (g_quantity_Covers_ok h_44832) (by kernel_rfl) rfl) ?_
              refine dd_oneG 18 (.pick (.tmp 68) (.tmp 71) (.const (.bool false))) (some 72) 12 false (b := (!x_44828)) (by kernel_rfl) (by kernel_rfl) h_44830 (o_pure (B x_44831) (ev_pickT h_44824 (by kernel_rfl) (by kernel_rfl)) rfl) ?_
              refine dd_runG 19 20 12 false rfl (b := (!x_44828)) (by kernel_rfl) h_44830 (by kernel_rfl) ?_
              refine ite_both h (fun h_44833 h => ?_) (fun h_44833 h => ?_)
              · refine dd_runG 20 22 19 true rfl (b := x_44831) (by kernel_rfl) h_44833 (by kernel_rfl) ?_
                obtain ⟨x_44834, h_44835, h⟩ := bind_some' h
                refine dd_oneG 22 (.call ⟨.value (.func 23), #[(.tmp 74), (.tmp 75)], #[24, 24]⟩) (some 76) 19 true (b := x_44831) (by kernel_rfl) (by kernel_rfl) h_44833 (o_callP (g_estoppelref04_Same_ok h_44835) (by kernel_rfl) rfl) ?_
                refine dd_runG 23 24 19 true rfl (b := x_44831) (by kernel_rfl) h_44833 (by kernel_rfl) ?_
                refine dd_oneG 24 (.pick (.tmp 73) (.tmp 77) (.const (.bool false))) (some 78) 12 false (b := (!x_44828)) (by kernel_rfl) (by kernel_rfl) h_44830 (o_pure (B (!x_44834)) (ev_pickT h_44833 (by kernel_rfl) (by kernel_rfl)) rfl) ?_
                refine dd_one 25 (.pick (.tmp 66) (.const (.bool true)) (.tmp 78)) (some 79) (by kernel_rfl) (o_pure (B (!x_44834)) (ev_pickF h_44830 (by kernel_rfl) (by kernel_rfl)) rfl) ?_
                refine dd_run 26 27 rfl (by kernel_rfl) ?_
                refine ite_both h (fun h_44836 h => ?_) (fun h_44836 h => ?_)
                · refine dd_skip 27 33 26 false rfl (b := (!x_44834)) (by kernel_rfl) h_44836 (by kernel_rfl) ?_
                  refine dd_skipU 33 34 32 true rfl (by kernel_rfl) (by kernel_rfl) ?_
                  refine dd_skip 34 35 26 false rfl (b := (!x_44834)) (by kernel_rfl) h_44836 (by kernel_rfl) ?_
                  refine dd_one 35 (.pick (.tmp 80) (.const (.bool true)) (.tmp 88)) (some 89) (by kernel_rfl) (o_pure (B true) (ev_pickT h_44836 (by kernel_rfl) (by kernel_rfl)) rfl) ?_
                  refine dd_nil 36 rfl ?_
                  exact hK_44823 _ _ (Option.some.inj h).symm (to_ren [] (leB rfl) (by kernel_rfl) (by kernel_rfl) (renE_of (by kernel_rfl) (by kernel_rfl)) trivial)
                · refine dd_runG 27 28 26 false rfl (b := (!x_44834)) (by kernel_rfl) h_44836 (by kernel_rfl) ?_
                  refine dd_oneG 28 (.call ⟨.builtin .len, #[(.tmp 81)], #[24]⟩) (some 82) 26 false (b := (!x_44834)) (by kernel_rfl) (by kernel_rfl) h_44836 (o_pure (I (a1.length : Int)) (ev_len_sl (e := 31) (ty := 0) (k := 2) (c := cs_Ratio) (by kernel_rfl) (by kernel_rfl)) rfl) ?_
                  refine dd_runG 29 30 26 false rfl (b := (!x_44834)) (by kernel_rfl) h_44836 (by kernel_rfl) ?_
                  refine dd_oneG 30 (.call ⟨.builtin .len, #[(.tmp 83)], #[24]⟩) (some 84) 26 false (b := (!x_44834)) (by kernel_rfl) (by kernel_rfl) h_44836 (o_pure (I (a2.length : Int)) (ev_len_sl (e := 31) (ty := 0) (k := 2) (c := cs_Ratio) (by kernel_rfl) (by kernel_rfl)) rfl) ?_
                  refine dd_runG 31 33 26 false rfl (b := (!x_44834)) (by kernel_rfl) h_44836 (by kernel_rfl) ?_
                  refine ite_both h (fun h_44837 h => ?_) (fun h_44837 h => ?_)
                  · refine dd_runG 33 34 32 true rfl (b := ((a1.length : Int) != (a2.length : Int))) (by kernel_rfl) h_44837 (by kernel_rfl) ?_
                    refine dd_oneG 34 (.pick (.tmp 86) (.tmp 87) (.const (.bool false))) (some 88) 26 false (b := (!x_44834)) (by kernel_rfl) (by kernel_rfl) h_44836 (o_pure (B x_44795) (ev_pickT h_44837 (by kernel_rfl) (by kernel_rfl)) rfl) ?_
                    refine dd_one 35 (.pick (.tmp 80) (.const (.bool true)) (.tmp 88)) (some 89) (by kernel_rfl) (o_pure (B x_44795) (ev_pickF h_44836 (by kernel_rfl) (by kernel_rfl)) rfl) ?_
                    refine dd_nil 36 rfl ?_
                    exact hK_44823 _ _ (Option.some.inj h).symm (to_ren [] (leB rfl) (by kernel_rfl) (by kernel_rfl) (renE_of (by kernel_rfl) (by kernel_rfl)) trivial)
                  · refine dd_skip 33 34 32 true rfl (b := ((a1.length : Int) != (a2.length : Int))) (by kernel_rfl) h_44837 (by kernel_rfl) ?_
                    refine dd_oneG 34 (.pick (.tmp 86) (.tmp 87) (.const (.bool false))) (some 88) 26 false (b := (!x_44834)) (by kernel_rfl) (by kernel_rfl) h_44836 (o_pure (B false) (ev_pickF h_44837 (by kernel_rfl) (by kernel_rfl)) rfl) ?_
                    refine dd_one 35 (.pick (.tmp 80) (.const (.bool true)) (.tmp 88)) (some 89) (by kernel_rfl) (o_pure (B false) (ev_pickF h_44836 (by kernel_rfl) (by kernel_rfl)) rfl) ?_
                    refine dd_nil 36 rfl ?_
                    exact hK_44823 _ _ (Option.some.inj h).symm (to_ren [] (leB rfl) (by kernel_rfl) (by kernel_rfl) (renE_of (by kernel_rfl) (by kernel_rfl)) trivial)
              · refine dd_skip 20 24 19 true rfl (b := x_44831) (by kernel_rfl) h_44833 (by kernel_rfl) ?_
                refine dd_oneG 24 (.pick (.tmp 73) (.tmp 77) (.const (.bool false))) (some 78) 12 false (b := (!x_44828)) (by kernel_rfl) (by kernel_rfl) h_44830 (o_pure (B false) (ev_pickF h_44833 (by kernel_rfl) (by kernel_rfl)) rfl) ?_
                refine dd_one 25 (.pick (.tmp 66) (.const (.bool true)) (.tmp 78)) (some 79) (by kernel_rfl) (o_pure (B false) (ev_pickF h_44830 (by kernel_rfl) (by kernel_rfl)) rfl) ?_
                refine dd_run 26 27 rfl (by kernel_rfl) ?_
                refine dd_runG 27 28 26 false rfl (b := false) (by kernel_rfl) rfl (by kernel_rfl) ?_
                refine dd_oneG 28 (.call ⟨.builtin .len, #[(.tmp 81)], #[24]⟩) (some 82) 26 false (b := false) (by kernel_rfl) (by kernel_rfl) rfl (o_pure (I (a1.length : Int)) (ev_len_sl (e := 31) (ty := 0) (k := 2) (c := cs_Ratio) (by kernel_rfl) (by kernel_rfl)) rfl) ?_
                refine dd_runG 29 30 26 false rfl (b := false) (by kernel_rfl) rfl (by kernel_rfl) ?_
                refine dd_oneG 30 (.call ⟨.builtin .len, #[(.tmp 83)], #[24]⟩) (some 84) 26 false (b := false) (by kernel_rfl) (by kernel_rfl) rfl (o_pure (I (a2.length : Int)) (ev_len_sl (e := 31) (ty := 0) (k := 2) (c := cs_Ratio) (by kernel_rfl) (by kernel_rfl)) rfl) ?_
                refine dd_runG 31 33 26 false rfl (b := false) (by kernel_rfl) rfl (by kernel_rfl) ?_
                refine ite_both h (fun h_44838 h => ?_) (fun h_44838 h => ?_)
                · refine dd_runG 33 34 32 true rfl (b := ((a1.length : Int) != (a2.length : Int))) (by kernel_rfl) h_44838 (by kernel_rfl) ?_
                  refine dd_oneG 34 (.pick (.tmp 86) (.tmp 87) (.const (.bool false))) (some 88) 26 false (b := false) (by kernel_rfl) (by kernel_rfl) rfl (o_pure (B x_44795) (ev_pickT h_44838 (by kernel_rfl) (by kernel_rfl)) rfl) ?_
                  refine dd_run 35 36 rfl (by kernel_rfl) ?_
                  refine dd_nil 36 rfl ?_
                  exact hK_44823 _ _ (Option.some.inj h).symm (to_ren [] (leB rfl) (by kernel_rfl) (by kernel_rfl) (renE_of (by kernel_rfl) (by kernel_rfl)) trivial)
                · refine dd_skip 33 34 32 true rfl (b := ((a1.length : Int) != (a2.length : Int))) (by kernel_rfl) h_44838 (by kernel_rfl) ?_
                  refine dd_oneG 34 (.pick (.tmp 86) (.tmp 87) (.const (.bool false))) (some 88) 26 false (b := false) (by kernel_rfl) (by kernel_rfl) rfl (o_pure (B false) (ev_pickF h_44838 (by kernel_rfl) (by kernel_rfl)) rfl) ?_
                  refine dd_run 35 36 rfl (by kernel_rfl) ?_
                  refine dd_nil 36 rfl ?_
                  exact hK_44823 _ _ (Option.some.inj h).symm (to_ren [] (leB rfl) (by kernel_rfl) (by kernel_rfl) (renE_of (by kernel_rfl) (by kernel_rfl)) trivial)
          · refine dd_skip 7 11 6 true rfl (b := x_44825) (by kernel_rfl) h_44827 (by kernel_rfl) ?_
            refine dd_one 11 (.pick (.tmp 60) (.tmp 64) (.const (.bool false))) (some 65) (by kernel_rfl) (o_pure (B false) (ev_pickF h_44827 (by kernel_rfl) (by kernel_rfl)) rfl) ?_
            refine dd_run 12 13 rfl (by kernel_rfl) ?_
            refine dd_runG 13 15 12 false rfl (b := false) (by kernel_rfl) rfl (by kernel_rfl) ?_
            refine dd_runG 15 17 14 true rfl (b := x_44795) (by kernel_rfl) h_44824 (by kernel_rfl) ?_
            obtain ⟨x_44839, h_44840, h⟩ := bind_some' h
            refine dd_oneG 17 (.call ⟨.value (.func 15), #[(.tmp 69), (.tmp 70)], #[24, 24]⟩) (some 71) 14 true (b := x_44795) (by kernel_rfl) (by kernel_rfl) h_44824 (o_callP (g_quantity_Covers_ok h_44840) (by kernel_rfl) rfl) ?_
            refine dd_oneG 18 (.pick (.tmp 68) (.tmp 71) (.const (.bool false))) (some 72) 12 false (b := false) (by kernel_rfl) (by kernel_rfl) rfl (o_pure (B x_44839) (ev_pickT h_44824 (by kernel_rfl) (by kernel_rfl)) rfl) ?_
            refine dd_runG 19 20 12 false rfl (b := false) (by kernel_rfl) rfl (by kernel_rfl) ?_
            refine ite_both h (fun h_44841 h => ?_) (fun h_44841 h => ?_)
            · refine dd_runG 20 22 19 true rfl (b := x_44839) (by kernel_rfl) h_44841 (by kernel_rfl) ?_
              obtain ⟨x_44842, h_44843, h⟩ := bind_some' h
              refine dd_oneG 22 (.call ⟨.value (.func 23), #[(.tmp 74), (.tmp 75)], #[24, 24]⟩) (some 76) 19 true (b := x_44839) (by kernel_rfl) (by kernel_rfl) h_44841 (o_callP (g_estoppelref04_Same_ok h_44843) (by kernel_rfl) rfl) ?_
              refine dd_runG 23 24 19 true rfl (b := x_44839) (by kernel_rfl) h_44841 (by kernel_rfl) ?_
              refine dd_oneG 24 (.pick (.tmp 73) (.tmp 77) (.const (.bool false))) (some 78) 12 false (b := false) (by kernel_rfl) (by kernel_rfl) rfl (o_pure (B (!x_44842)) (ev_pickT h_44841 (by kernel_rfl) (by kernel_rfl)) rfl) ?_
              refine dd_run 25 27 rfl (by kernel_rfl) ?_
              refine ite_both h (fun h_44844 h => ?_) (fun h_44844 h => ?_)
              · refine dd_skip 27 33 26 false rfl (b := (!x_44842)) (by kernel_rfl) h_44844 (by kernel_rfl) ?_
                refine dd_skipU 33 34 32 true rfl (by kernel_rfl) (by kernel_rfl) ?_
                refine dd_skip 34 35 26 false rfl (b := (!x_44842)) (by kernel_rfl) h_44844 (by kernel_rfl) ?_
                refine dd_one 35 (.pick (.tmp 80) (.const (.bool true)) (.tmp 88)) (some 89) (by kernel_rfl) (o_pure (B true) (ev_pickT h_44844 (by kernel_rfl) (by kernel_rfl)) rfl) ?_
                refine dd_nil 36 rfl ?_
                exact hK_44823 _ _ (Option.some.inj h).symm (to_ren [] (leB rfl) (by kernel_rfl) (by kernel_rfl) (renE_of (by kernel_rfl) (by kernel_rfl)) trivial)
              · refine dd_runG 27 28 26 false rfl (b := (!x_44842)) (by kernel_rfl) h_44844 (by kernel_rfl) ?_
                refine dd_oneG 28 (.call ⟨.builtin .len, #[(.tmp 81)], #[24]⟩) (some 82) 26 false (b := (!x_44842)) (by kernel_rfl) (by kernel_rfl) h_44844 (o_pure (I (a1.length : Int)) (ev_len_sl (e := 31) (ty := 0) (k := 2) (c := cs_Ratio) (by kernel_rfl) (by kernel_rfl)) rfl) ?_
                refine dd_runG 29 30 26 false rfl (b := (!x_44842)) (by kernel_rfl) h_44844 (by kernel_rfl) ?_
                refine dd_oneG 30 (.call ⟨.builtin .len, #[(.tmp 83)], #[24]⟩) (some 84) 26 false (b := (!x_44842)) (by kernel_rfl) (by kernel_rfl) h_44844 (o_pure (I (a2.length : Int)) (ev_len_sl (e := 31) (ty := 0) (k := 2) (c := cs_Ratio) (by kernel_rfl) (by kernel_rfl)) rfl) ?_
                refine dd_runG 31 33 26 false rfl (b := (!x_44842)) (by kernel_rfl) h_44844 (by kernel_rfl) ?_
                refine ite_both h (fun h_44845 h => ?_) (fun h_44845 h => ?_)
                · refine dd_runG 33 34 32 true rfl (b := ((a1.length : Int) != (a2.length : Int))) (by kernel_rfl) h_44845 (by kernel_rfl) ?_
                  refine dd_oneG 34 (.pick (.tmp 86) (.tmp 87) (.const (.bool false))) (some 88) 26 false (b := (!x_44842)) (by kernel_rfl) (by kernel_rfl) h_44844 (o_pure (B x_44795) (ev_pickT h_44845 (by kernel_rfl) (by kernel_rfl)) rfl) ?_
                  refine dd_one 35 (.pick (.tmp 80) (.const (.bool true)) (.tmp 88)) (some 89) (by kernel_rfl) (o_pure (B x_44795) (ev_pickF h_44844 (by kernel_rfl) (by kernel_rfl)) rfl) ?_
                  refine dd_nil 36 rfl ?_
                  exact hK_44823 _ _ (Option.some.inj h).symm (to_ren [] (leB rfl) (by kernel_rfl) (by kernel_rfl) (renE_of (by kernel_rfl) (by kernel_rfl)) trivial)
                · refine dd_skip 33 34 32 true rfl (b := ((a1.length : Int) != (a2.length : Int))) (by kernel_rfl) h_44845 (by kernel_rfl) ?_
                  refine dd_oneG 34 (.pick (.tmp 86) (.tmp 87) (.const (.bool false))) (some 88) 26 false (b := (!x_44842)) (by kernel_rfl) (by kernel_rfl) h_44844 (o_pure (B false) (ev_pickF h_44845 (by kernel_rfl) (by kernel_rfl)) rfl) ?_
                  refine dd_one 35 (.pick (.tmp 80) (.const (.bool true)) (.tmp 88)) (some 89) (by kernel_rfl) (o_pure (B false) (ev_pickF h_44844 (by kernel_rfl) (by kernel_rfl)) rfl) ?_
                  refine dd_nil 36 rfl ?_
                  exact hK_44823 _ _ (Option.some.inj h).symm (to_ren [] (leB rfl) (by kernel_rfl) (by kernel_rfl) (renE_of (by kernel_rfl) (by kernel_rfl)) trivial)
            · refine dd_skip 20 24 19 true rfl (b := x_44839) (by kernel_rfl) h_44841 (by kernel_rfl) ?_
              refine dd_oneG 24 (.pick (.tmp 73) (.tmp 77) (.const (.bool false))) (some 78) 12 false (b := false) (by kernel_rfl) (by kernel_rfl) rfl (o_pure (B false) (ev_pickF h_44841 (by kernel_rfl) (by kernel_rfl)) rfl) ?_
              refine dd_run 25 27 rfl (by kernel_rfl) ?_
              refine dd_runG 27 28 26 false rfl (b := false) (by kernel_rfl) rfl (by kernel_rfl) ?_
              refine dd_oneG 28 (.call ⟨.builtin .len, #[(.tmp 81)], #[24]⟩) (some 82) 26 false (b := false) (by kernel_rfl) (by kernel_rfl) rfl (o_pure (I (a1.length : Int)) (ev_len_sl (e := 31) (ty := 0) (k := 2) (c := cs_Ratio) (by kernel_rfl) (by kernel_rfl)) rfl) ?_
              refine dd_runG 29 30 26 false rfl (b := false) (by kernel_rfl) rfl (by kernel_rfl) ?_
              refine dd_oneG 30 (.call ⟨.builtin .len, #[(.tmp 83)], #[24]⟩) (some 84) 26 false (b := false) (by kernel_rfl) (by kernel_rfl) rfl (o_pure (I (a2.length : Int)) (ev_len_sl (e := 31) (ty := 0) (k := 2) (c := cs_Ratio) (by kernel_rfl) (by kernel_rfl)) rfl) ?_
              refine dd_runG 31 33 26 false rfl (b := false) (by kernel_rfl) rfl (by kernel_rfl) ?_
              refine ite_both h (fun h_44846 h => ?_) (fun h_44846 h => ?_)
              · refine dd_runG 33 34 32 true rfl (b := ((a1.length : Int) != (a2.length : Int))) (by kernel_rfl) h_44846 (by kernel_rfl) ?_
                refine dd_oneG 34 (.pick (.tmp 86) (.tmp 87) (.const (.bool false))) (some 88) 26 false (b := false) (by kernel_rfl) (by kernel_rfl) rfl (o_pure (B x_44795) (ev_pickT h_44846 (by kernel_rfl) (by kernel_rfl)) rfl) ?_
                refine dd_run 35 36 rfl (by kernel_rfl) ?_
                refine dd_nil 36 rfl ?_
                exact hK_44823 _ _ (Option.some.inj h).symm (to_ren [] (leB rfl) (by kernel_rfl) (by kernel_rfl) (renE_of (by kernel_rfl) (by kernel_rfl)) trivial)
              · refine dd_skip 33 34 32 true rfl (b := ((a1.length : Int) != (a2.length : Int))) (by kernel_rfl) h_44846 (by kernel_rfl) ?_
                refine dd_oneG 34 (.pick (.tmp 86) (.tmp 87) (.const (.bool false))) (some 88) 26 false (b := false) (by kernel_rfl) (by kernel_rfl) rfl (o_pure (B false) (ev_pickF h_44846 (by kernel_rfl) (by kernel_rfl)) rfl) ?_
                refine dd_run 35 36 rfl (by kernel_rfl) ?_
                refine dd_nil 36 rfl ?_
                exact hK_44823 _ _ (Option.some.inj h).symm (to_ren [] (leB rfl) (by kernel_rfl) (by kernel_rfl) (renE_of (by kernel_rfl) (by kernel_rfl)) trivial)
        · refine dd_skip 2 5 1 true rfl (b := x_44795) (by kernel_rfl) h_44824 (by kernel_rfl) ?_
          refine dd_one 5 (.pick (.tmp 55) (.tmp 58) (.const (.bool false))) (some 59) (by kernel_rfl) (o_pure (B false) (ev_pickF h_44824 (by kernel_rfl) (by kernel_rfl)) rfl) ?_
          refine dd_run 6 7 rfl (by kernel_rfl) ?_
          refine dd_skip 7 11 6 true rfl (b := false) (by kernel_rfl) rfl (by kernel_rfl) ?_
          refine dd_run 11 13 rfl (by kernel_rfl) ?_
          refine dd_runG 13 15 12 false rfl (b := false) (by kernel_rfl) rfl (by kernel_rfl) ?_
          refine dd_skip 15 18 14 true rfl (b := x_44795) (by kernel_rfl) h_44824 (by kernel_rfl) ?_
          refine dd_oneG 18 (.pick (.tmp 68) (.tmp 71) (.const (.bool false))) (some 72) 12 false (b := false) (by kernel_rfl) (by kernel_rfl) rfl (o_pure (B false) (ev_pickF h_44824 (by kernel_rfl) (by kernel_rfl)) rfl) ?_
          refine dd_runG 19 20 12 false rfl (b := false) (by kernel_rfl) rfl (by kernel_rfl) ?_
          refine dd_skip 20 24 19 true rfl (b := false) (by kernel_rfl) rfl (by kernel_rfl) ?_
          refine dd_runG 24 25 12 false rfl (b := false) (by kernel_rfl) rfl (by kernel_rfl) ?_
          refine dd_run 25 27 rfl (by kernel_rfl) ?_
          refine dd_runG 27 28 26 false rfl (b := false) (by kernel_rfl) rfl (by kernel_rfl) ?_
          refine dd_oneG 28 (.call ⟨.builtin .len, #[(.tmp 81)], #[24]⟩) (some 82) 26 false (b := false) (by kernel_rfl) (by kernel_rfl) rfl (o_pure (I (a1.length : Int)) (ev_len_sl (e := 31) (ty := 0) (k := 2) (c := cs_Ratio) (by kernel_rfl) (by kernel_rfl)) rfl) ?_
          refine dd_runG 29 30 26 false rfl (b := false) (by kernel_rfl) rfl (by kernel_rfl) ?_
          refine dd_oneG 30 (.call ⟨.builtin .len, #[(.tmp 83)], #[24]⟩) (some 84) 26 false (b := false) (by kernel_rfl) (by kernel_rfl) rfl (o_pure (I (a2.length : Int)) (ev_len_sl (e := 31) (ty := 0) (k := 2) (c := cs_Ratio) (by kernel_rfl) (by kernel_rfl)) rfl) ?_
          refine dd_runG 31 33 26 false rfl (b := false) (by kernel_rfl) rfl (by kernel_rfl) ?_
          refine ite_both h (fun h_44847 h => ?_) (fun h_44847 h => ?_)
          · refine dd_runG 33 34 32 true rfl (b := ((a1.length : Int) != (a2.length : Int))) (by kernel_rfl) h_44847 (by kernel_rfl) ?_
            refine dd_oneG 34 (.pick (.tmp 86) (.tmp 87) (.const (.bool false))) (some 88) 26 false (b := false) (by kernel_rfl) (by kernel_rfl) rfl (o_pure (B x_44795) (ev_pickT h_44847 (by kernel_rfl) (by kernel_rfl)) rfl) ?_
            refine dd_run 35 36 rfl (by kernel_rfl) ?_
            refine dd_nil 36 rfl ?_
            exact hK_44823 _ _ (Option.some.inj h).symm (to_ren [] (leB rfl) (by kernel_rfl) (by kernel_rfl) (renE_of (by kernel_rfl) (by kernel_rfl)) trivial)
          · refine dd_skip 33 34 32 true rfl (b := ((a1.length : Int) != (a2.length : Int))) (by kernel_rfl) h_44847 (by kernel_rfl) ?_
            refine dd_oneG 34 (.pick (.tmp 86) (.tmp 87) (.const (.bool false))) (some 88) 26 false (b := false) (by kernel_rfl) (by kernel_rfl) rfl (o_pure (B false) (ev_pickF h_44847 (by kernel_rfl) (by kernel_rfl)) rfl) ?_
            refine dd_run 35 36 rfl (by kernel_rfl) ?_
            refine dd_nil 36 rfl ?_
            exact hK_44823 _ _ (Option.some.inj h).symm (to_ren [] (leB rfl) (by kernel_rfl) (by kernel_rfl) (renE_of (by kernel_rfl) (by kernel_rfl)) trivial)
      · refine w_seq (fun K hK_44849 => ?_)
        refine w_ite h (by kernel_rfl) (fun h_44850 h => ?_) (fun h_44850 h => ?_)
        · refine w_reg ⟨[(8, B false)], [], 0⟩ (by kernel_rfl) (leB rfl) ?_
          refine w_ret ?_
          obtain rfl := ((Option.some.inj h).symm).symm
          exact ret_leaf (.inl rfl) ⟨[(8, B false)], [], 0⟩ (to_ren [] (leB rfl) (by kernel_rfl) (by kernel_rfl) (renE_of (by kernel_rfl) (by kernel_rfl)) trivial) [B false] (by kernel_rfl) (by kernel_rfl) (leB rfl) (by kernel_rfl) trivial
        · refine w_skip ?_
          refine hK_44849 _ ⟨[(0, sl 2 cs_Ratio a1), (1, sl 2 cs_Ratio a2), (3, sl 2 cs_Ratio a4), (9, B x_44762), (10, B x_44795)], [], 0⟩ (to_trim (by kernel_rfl) (leB rfl)) ?_
          refine w_assoc ?_
          refine w_cut h (fun (e_44852 : Bool) => ⟨[(0, sl 2 cs_Ratio a1), (1, sl 2 cs_Ratio a2), (3, sl 2 cs_Ratio a4), (9, B x_44762), (10, B x_44795), (101, B e_44852)], [], 0⟩) (fun o h h_44853 K hK_44854 => ?_) (fun e_44852 h => ?_)
          · refine w_reg0 ?_
            refine dd_run 0 1 rfl (by kernel_rfl) ?_
            refine dd_one 1 (.call ⟨.builtin .len, #[(.tmp 90)], #[24]⟩) (some 91) (by kernel_rfl) (o_pure (I (a1.length : Int)) (ev_len_sl (e := 31) (ty := 0) (k := 2) (c := cs_Ratio) (by kernel_rfl) (by kernel_rfl)) rfl) ?_
            refine dd_run 2 3 rfl (by kernel_rfl) ?_
            refine dd_one 3 (.call ⟨.builtin .len, #[(.tmp 92)], #[24]⟩) (some 93) (by kernel_rfl) (o_pure (I (a2.length : Int)) (ev_len_sl (e := 31) (ty := 0) (k := 2) (c := cs_Ratio) (by kernel_rfl) (by kernel_rfl)) rfl) ?_
            refine dd_run 4 6 rfl (by kernel_rfl) ?_
            refine ite_both h (fun h_44855 h => ?_) (fun h_44855 h => ?_)
            · refine dd_skip 6 11 5 false rfl (b := ((a1.length : Int) != (a2.length : Int))) (by kernel_rfl) h_44855 (by kernel_rfl) ?_
              refine dd_one 11 (.pick (.tmp 95) (.const (.bool true)) (.tmp 100)) (some 101) (by kernel_rfl) (o_pure (B true) (ev_pickT h_44855 (by kernel_rfl) (by kernel_rfl)) rfl) ?_
              refine dd_nil 12 rfl ?_
              exact hK_44854 _ _ (Option.some.inj h).symm (to_ren [] (leB rfl) (by kernel_rfl) (by kernel_rfl) (renE_of (by kernel_rfl) (by kernel_rfl)) trivial)
            · refine dd_runG 6 7 5 false rfl (b := ((a1.length : Int) != (a2.length : Int))) (by kernel_rfl) h_44855 (by kernel_rfl) ?_
              refine dd_oneG 7 (.call ⟨.builtin .len, #[(.tmp 96)], #[24]⟩) (some 97) 5 false (b := ((a1.length : Int) != (a2.length : Int))) (by kernel_rfl) (by kernel_rfl) h_44855 (o_pure (I (a4.length : Int)) (ev_len_sl (e := 31) (ty := 0) (k := 2) (c := cs_Ratio) (by kernel_rfl) (by kernel_rfl)) rfl) ?_
              refine dd_runG 8 9 5 false rfl (b := ((a1.length : Int) != (a2.length : Int))) (by kernel_rfl) h_44855 (by kernel_rfl) ?_
              refine dd_oneG 9 (.call ⟨.builtin .len, #[(.tmp 98)], #[24]⟩) (some 99) 5 false (b := ((a1.length : Int) != (a2.length : Int))) (by kernel_rfl) (by kernel_rfl) h_44855 (o_pure (I (a1.length : Int)) (ev_len_sl (e := 31) (ty := 0) (k := 2) (c := cs_Ratio) (by kernel_rfl) (by kernel_rfl)) rfl) ?_
              refine dd_runG 10 11 5 false rfl (b := ((a1.length : Int) != (a2.length : Int))) (by kernel_rfl) h_44855 (by kernel_rfl) ?_
              refine dd_one 11 (.pick (.tmp 95) (.const (.bool true)) (.tmp 100)) (some 101) (by kernel_rfl) (o_pure (B ((a4.length : Int) != (a1.length : Int))) (ev_pickF h_44855 (by kernel_rfl) (by kernel_rfl)) rfl) ?_
              refine dd_nil 12 rfl ?_
              exact hK_44854 _ _ (Option.some.inj h).symm (to_ren [] (leB rfl) (by kernel_rfl) (by kernel_rfl) (renE_of (by kernel_rfl) (by kernel_rfl)) trivial)
          · refine w_seq (fun K hK_44857 => ?_)
            refine w_ite h (by kernel_rfl) (fun h_44858 h => ?_) (fun h_44858 h => ?_)
            · refine w_reg ⟨[(8, B x_44762)], [], 0⟩ (by kernel_rfl) (leB rfl) ?_
              refine w_ret ?_
              obtain rfl := ((Option.some.inj h).symm).symm
              exact ret_leaf (.inl rfl) ⟨[(8, B x_44762)], [], 0⟩ (to_ren [] (leB rfl) (by kernel_rfl) (by kernel_rfl) (renE_of (by kernel_rfl) (by kernel_rfl)) trivial) [B x_44762] (by kernel_rfl) (by kernel_rfl) (leB rfl) (by kernel_rfl) trivial
            · refine w_skip ?_
              refine hK_44857 _ ⟨[(0, sl 2 cs_Ratio a1), (1, sl 2 cs_Ratio a2), (3, sl 2 cs_Ratio a4), (9, B x_44762), (10, B x_44795)], [], 0⟩ (to_trim (by kernel_rfl) (leB rfl)) ?_
              refine w_reg ⟨[(0, sl 2 cs_Ratio a1), (1, sl 2 cs_Ratio a2), (3, sl 2 cs_Ratio a4), (9, B x_44762), (10, B x_44795), (11, Nl), (12, Nl)], [], 0⟩ (by kernel_rfl) (leB rfl) ?_
              refine w_assoc ?_
              refine w_reg ⟨[(0, sl 2 cs_Ratio a1), (1, sl 2 cs_Ratio a2), (3, sl 2 cs_Ratio a4), (9, B x_44762), (10, B x_44795), (11, Nl), (12, Nl), (13, I 0)], [], 0⟩ (by kernel_rfl) (leB rfl) ?_
              refine w_cut h (fun (e_45315 : List D.Ratio × List D.Ratio) => ⟨[(9, B x_44762), (10, B x_44795), (11, sl 2 cs_Ratio e_45315.1), (12, sl 2 cs_Ratio e_45315.2)], [], 0⟩) (fun o h h_45316 K hK_45317 => ?_) (fun e_45315 h => ?_)
              · refine w_block ?_
                refine w_loopO h (fun (s_45622 : List D.Ratio × List D.Ratio × Int) => ⟨[(0, sl 2 cs_Ratio a1), (1, sl 2 cs_Ratio a2), (3, sl 2 cs_Ratio a4), (9, B x_44762), (10, B x_44795), (11, growE 0 s_45622.1), (12, growE 1 s_45622.2.1), (13, I s_45622.2.2)], (growH 0 ⟨31, 2, flat cs_Ratio s_45622.1⟩ s_45622.1 (growH 1 ⟨31, 2, flat cs_Ratio s_45622.2.1⟩ s_45622.2.1 [])), 2⟩) (to_ren [] (leB rfl) (by kernel_rfl) (by kernel_rfl) (renE_of (by kernel_rfl) (by kernel_rfl)) trivial) (fun s_45622 o h h_45623 K hK_45624 => ?_)
                · refine w_assoc ?_
                  refine w_seq (fun K hK_45625 => w_reg0 ?_)
                  refine dd_run 0 2 rfl (by kernel_rfl) ?_
                  refine dd_one 2 (.call ⟨.builtin .len, #[(.tmp 104)], #[24]⟩) (some 105) (by kernel_rfl) (o_pure (I (a1.length : Int)) (ev_len_sl (e := 31) (ty := 0) (k := 2) (c := cs_Ratio) (by kernel_rfl) (by kernel_rfl)) rfl) ?_
                  refine ops_fin' hK_45625 ⟨[(0, sl 2 cs_Ratio a1), (1, sl 2 cs_Ratio a2), (3, sl 2 cs_Ratio a4), (9, B x_44762), (10, B x_44795), (11, growE 0 s_45622.1), (12, growE 1 s_45622.2.1), (13, I s_45622.2.2), (106, B (decide (s_45622.2.2 < (a1.length : Int))))], (growH 0 ⟨31, 2, flat cs_Ratio s_45622.1⟩ s_45622.1 (growH 1 ⟨31, 2, flat cs_Ratio s_45622.2.1⟩ s_45622.2.1 [])), 2⟩ (by kernel_rfl) (leB rfl) ?_
                  refine w_seq (fun K hK_45627 => ?_)
                  refine w_ite h (by kernel_rfl) (fun h_45628 h => ?_) (fun h_45628 h => ?_)
                  · refine w_skip ?_
                    refine hK_45627 _ ⟨[(0, sl 2 cs_Ratio a1), (1, sl 2 cs_Ratio a2), (3, sl 2 cs_Ratio a4), (9, B x_44762), (10, B x_44795), (11, growE 0 s_45622.1), (12, growE 1 s_45622.2.1), (13, I s_45622.2.2)], (growH 0 ⟨31, 2, flat cs_Ratio s_45622.1⟩ s_45622.1 (growH 1 ⟨31, 2, flat cs_Ratio s_45622.2.1⟩ s_45622.2.1 [])), 2⟩ (to_trim (by kernel_rfl) (leB rfl)) ?_
                    refine w_seq (fun K hK_45702 => ?_)
                    refine w_block ?_
                    refine w_seq (fun K hK_45717 => w_mix0 (by kernel_rfl) (by kernel_rfl) ?_)
                    refine mm_run 0 2 rfl (by kernel_rfl) ?_
                    obtain ⟨x_45720, h_45721, h⟩ := bind_some' h
                    refine mm_one 2 (.indexAddr 24 (.tmp 110) (.tmp 111)) (some 112) (by kernel_rfl) (by kernel_rfl) (oH_pure (.ip (cs_Ratio x_45720)) (ev_idx_sl (e := 31) (k := 2) (c := cs_Ratio) (ik := .i64) h_45721 (by kernel_rfl) (by kernel_rfl) (by kernel_rfl) (by kernel_rfl)) rfl) ?_
                    refine mm_run 3 6 rfl (by kernel_rfl) ?_
                    obtain ⟨x_45724, h_45725, h⟩ := bind_some' h
                    refine mm_one 6 (.indexAddr 24 (.tmp 114) (.tmp 115)) (some 116) (by kernel_rfl) (by kernel_rfl) (oH_pure (.ip (cs_Ratio x_45724)) (ev_idx_sl (e := 31) (k := 2) (c := cs_Ratio) (ik := .i64) h_45725 (by kernel_rfl) (by kernel_rfl) (by kernel_rfl) (by kernel_rfl)) rfl) ?_
                    refine mm_run 7 8 rfl (by kernel_rfl) ?_
                    obtain ⟨x_45726, h_45727, h⟩ := bind_some' h
                    refine mm_one 8 (.call ⟨.value (.func 25), #[(.tmp 113), (.tmp 117)], #[31, 31]⟩) (some 118) (by kernel_rfl) (by kernel_rfl) (oH_callP (g_ratio_Add_ok h_45727) (by kernel_rfl) rfl) ?_
                    refine mm_run 9 12 rfl (by kernel_rfl) ?_
                    refine mm_ops 12 (.alloc 31) (some 14) none (by kernel_rfl) (by kernel_rfl) ?_
                    refine ops_fin' hK_45717 ⟨[(0, sl 2 cs_Ratio a1), (1, sl 2 cs_Ratio a2), (3, sl 2 cs_Ratio a4), (9, B x_44762), (10, B x_44795), (11, growE 0 s_45622.1), (12, growE 1 s_45622.2.1), (13, I s_45622.2.2), (14, .ptr 2 0), (15, I x_45726.2)], ((2, ⟨31, 0, (cs_Ratio x_45726.1)⟩) :: (growH 0 ⟨31, 2, flat cs_Ratio s_45622.1⟩ s_45622.1 (growH 1 ⟨31, 2, flat cs_Ratio s_45622.2.1⟩ s_45622.2.1 []))), 3⟩ (by kernel_rfl) (leB rfl) ?_
                    refine w_seq (fun K hK_45742 => w_mix0 (by kernel_rfl) (by kernel_rfl) ?_)
                    refine mm_run 0 2 rfl (by kernel_rfl) ?_
                    obtain ⟨x_45745, h_45746, h⟩ := bind_some' h
                    refine mm_one 2 (.indexAddr 24 (.tmp 122) (.tmp 123)) (some 124) (by kernel_rfl) (by kernel_rfl) (oH_pure (.ip (cs_Ratio x_45745)) (ev_idx_sl (e := 31) (k := 2) (c := cs_Ratio) (ik := .i64) h_45746 (by kernel_rfl) (by kernel_rfl) (by kernel_rfl) (by kernel_rfl)) rfl) ?_
                    refine mm_run 3 6 rfl (by kernel_rfl) ?_
                    obtain ⟨x_45749, h_45750, h⟩ := bind_some' h
                    refine mm_one 6 (.indexAddr 24 (.tmp 126) (.tmp 127)) (some 128) (by kernel_rfl) (by kernel_rfl) (oH_pure (.ip (cs_Ratio x_45749)) (ev_idx_sl (e := 31) (k := 2) (c := cs_Ratio) (ik := .i64) h_45750 (by kernel_rfl) (by kernel_rfl) (by kernel_rfl) (by kernel_rfl)) rfl) ?_
                    refine mm_run 7 8 rfl (by kernel_rfl) ?_
                    obtain ⟨x_45751, h_45752, h⟩ := bind_some' h
                    refine mm_one 8 (.call ⟨.value (.func 25), #[(.tmp 125), (.tmp 129)], #[31, 31]⟩) (some 130) (by kernel_rfl) (by kernel_rfl) (oH_callP (g_ratio_Add_ok h_45752) (by kernel_rfl) rfl) ?_
                    refine mm_run 9 12 rfl (by kernel_rfl) ?_
                    refine mm_ops 12 (.alloc 31) (some 16) none (by kernel_rfl) (by kernel_rfl) ?_
                    refine ops_fin' hK_45742 ⟨[(0, sl 2 cs_Ratio a1), (1, sl 2 cs_Ratio a2), (3, sl 2 cs_Ratio a4), (9, B x_44762), (10, B x_44795), (11, growE 0 s_45622.1), (12, growE 1 s_45622.2.1), (13, I s_45622.2.2), (14, .ptr 2 0), (15, I x_45726.2), (16, .ptr 3 0), (17, I x_45751.2)], ((3, ⟨31, 0, (cs_Ratio x_45751.1)⟩) :: ((2, ⟨31, 0, (cs_Ratio x_45726.1)⟩) :: (growH 0 ⟨31, 2, flat cs_Ratio s_45622.1⟩ s_45622.1 (growH 1 ⟨31, 2, flat cs_Ratio s_45622.2.1⟩ s_45622.2.1 [])))), 4⟩ (by kernel_rfl) (leB rfl) ?_
                    refine w_assoc ?_
                    refine w_cut h (fun (e_45754 : List D.Ratio × List D.Ratio × Bool) => ⟨[(0, sl 2 cs_Ratio a1), (1, sl 2 cs_Ratio a2), (3, sl 2 cs_Ratio a4), (9, B x_44762), (10, B x_44795), (11, growE 0 e_45754.1), (12, growE 1 e_45754.2.1), (13, I s_45622.2.2), (14, .ptr 2 0), (16, .ptr 3 0), (138, B e_45754.2.2)], ((2, ⟨31, 0, (cs_Ratio x_45726.1)⟩) :: ((3, ⟨31, 0, (cs_Ratio x_45751.1)⟩) :: (growH 0 ⟨31, 2, flat cs_Ratio e_45754.1⟩ e_45754.1 (growH 1 ⟨31, 2, flat cs_Ratio e_45754.2.1⟩ e_45754.2.1 [])))), 4⟩) (fun o h h_45755 K hK_45756 => ?_) (fun e_45754 h => ?_)
                    · refine w_reg0 ?_
                      refine dd_run 0 3 rfl (by kernel_rfl) ?_
                      refine ite_both h (fun h_45757 h => ?_) (fun h_45757 h => ?_)
                      · refine dd_skip 3 5 2 false rfl (b := (x_45726.2 != 0)) (by kernel_rfl) h_45757 (by kernel_rfl) ?_
                        refine dd_one 5 (.pick (.tmp 135) (.const (.bool true)) (.tmp 137)) (some 138) (by kernel_rfl) (o_pure (B true) (ev_pickT h_45757 (by kernel_rfl) (by kernel_rfl)) rfl) ?_
                        refine dd_nil 6 rfl ?_
                        refine hK_45756 _ _ (Option.some.inj h).symm ?_
                        cases s_45622.1 with
                        | nil =>
                          cases s_45622.2.1 with
                          | nil =>
                            exact to_ren [] (leB rfl) (by kernel_rfl) (by kernel_rfl) (renE_of (by kernel_rfl) (by kernel_rfl)) ⟨reRn (by kernel_rfl) (leB rfl) (by kernel_rfl), ⟨reRn (by kernel_rfl) (leB rfl) (by kernel_rfl), trivial⟩⟩
                          | cons y_ ys_ =>
                            exact to_ren [] (leB rfl) (by kernel_rfl) (by kernel_rfl) (renE_of (by kernel_rfl) (by kernel_rfl)) ⟨reRn (by kernel_rfl) (leB rfl) (by kernel_rfl), ⟨reRn (by kernel_rfl) (leB rfl) (by kernel_rfl), ⟨rePl (by kernel_rfl) (leB rfl) (flat_all _ (fun _ => rfl) _), trivial⟩⟩⟩
                        | cons y_ ys_ =>
                          cases s_45622.2.1 with
                          | nil =>
                            exact to_ren [] (leB rfl) (by kernel_rfl) (by kernel_rfl) (renE_of (by kernel_rfl) (by kernel_rfl)) ⟨reRn (by kernel_rfl) (leB rfl) (by kernel_rfl), ⟨reRn (by kernel_rfl) (leB rfl) (by kernel_rfl), ⟨rePl (by kernel_rfl) (leB rfl) (flat_all _ (fun _ => rfl) _), trivial⟩⟩⟩
                          | cons y_ ys_ =>
                            exact to_ren [] (leB rfl) (by kernel_rfl) (by kernel_rfl) (renE_of (by kernel_rfl) (by kernel_rfl)) ⟨reRn (by kernel_rfl) (leB rfl) (by kernel_rfl), ⟨reRn (by kernel_rfl) (leB rfl) (by kernel_rfl), ⟨rePl (by kernel_rfl) (leB rfl) (flat_all _ (fun _ => rfl) _), ⟨rePl (by kernel_rfl) (leB rfl) (flat_all _ (fun _ => rfl) _), trivial⟩⟩⟩⟩
                      · refine dd_runG 3 5 2 false rfl (b := (x_45726.2 != 0)) (by kernel_rfl) h_45757 (by kernel_rfl) ?_
                        refine dd_one 5 (.pick (.tmp 135) (.const (.bool true)) (.tmp 137)) (some 138) (by kernel_rfl) (o_pure (B (x_45751.2 != 0)) (ev_pickF h_45757 (by kernel_rfl) (by kernel_rfl)) rfl) ?_
                        refine dd_nil 6 rfl ?_
                        refine hK_45756 _ _ (Option.some.inj h).symm ?_
                        cases s_45622.1 with
                        | nil =>
                          cases s_45622.2.1 with
                          | nil =>
                            exact to_ren [] (leB rfl) (by kernel_rfl) (by kernel_rfl) (renE_of (by kernel_rfl) (by kernel_rfl)) ⟨reRn (by kernel_rfl) (leB rfl) (by kernel_rfl), ⟨reRn (by kernel_rfl) (leB rfl) (by kernel_rfl), trivial⟩⟩
                          | cons y_ ys_ =>
                            exact to_ren [] (leB rfl) (by kernel_rfl) (by kernel_rfl) (renE_of (by kernel_rfl) (by kernel_rfl)) ⟨reRn (by kernel_rfl) (leB rfl) (by kernel_rfl), ⟨reRn (by kernel_rfl) (leB rfl) (by kernel_rfl), ⟨rePl (by kernel_rfl) (leB rfl) (flat_all _ (fun _ => rfl) _), trivial⟩⟩⟩
                        | cons y_ ys_ =>
                          cases s_45622.2.1 with
                          | nil =>
                            exact to_ren [] (leB rfl) (by kernel_rfl) (by kernel_rfl) (renE_of (by kernel_rfl) (by kernel_rfl)) ⟨reRn (by kernel_rfl) (leB rfl) (by kernel_rfl), ⟨reRn (by kernel_rfl) (leB rfl) (by kernel_rfl), ⟨rePl (by kernel_rfl) (leB rfl) (flat_all _ (fun _ => rfl) _), trivial⟩⟩⟩
                          | cons y_ ys_ =>
                            exact to_ren [] (leB rfl) (by kernel_rfl) (by kernel_rfl) (renE_of (by kernel_rfl) (by kernel_rfl)) ⟨reRn (by kernel_rfl) (leB rfl) (by kernel_rfl), ⟨reRn (by kernel_rfl) (leB rfl) (by kernel_rfl), ⟨rePl (by kernel_rfl) (leB rfl) (flat_all _ (fun _ => rfl) _), ⟨rePl (by kernel_rfl) (leB rfl) (flat_all _ (fun _ => rfl) _), trivial⟩⟩⟩⟩
                    · refine w_seq (fun K hK_45759 => ?_)
                      refine w_ite h (by kernel_rfl) (fun h_45760 h => ?_) (fun h_45760 h => ?_)
                      · refine w_reg ⟨[(8, B x_44762)], ((2, ⟨31, 0, (cs_Ratio x_45726.1)⟩) :: ((3, ⟨31, 0, (cs_Ratio x_45751.1)⟩) :: (growH 0 ⟨31, 2, flat cs_Ratio e_45754.1⟩ e_45754.1 (growH 1 ⟨31, 2, flat cs_Ratio e_45754.2.1⟩ e_45754.2.1 [])))), 4⟩ (by kernel_rfl) (leB rfl) ?_
                        refine w_ret ?_
                        obtain rfl := ((h_45316 _ (h_45623 _ (Option.some.inj h).symm).symm).symm).symm
                        exact ret_leaf (.inl rfl) ⟨[(8, B x_44762)], [], 0⟩ (to_ren [] (leB rfl) (by kernel_rfl) (by kernel_rfl) (renE_of (by kernel_rfl) (by kernel_rfl)) trivial) [B x_44762] (by kernel_rfl) (by kernel_rfl) (leB rfl) (by kernel_rfl) trivial
                      · refine w_skip ?_
                        refine hK_45759 _ ⟨[(0, sl 2 cs_Ratio a1), (1, sl 2 cs_Ratio a2), (3, sl 2 cs_Ratio a4), (9, B x_44762), (10, B x_44795), (11, growE 0 e_45754.1), (12, growE 1 e_45754.2.1), (13, I s_45622.2.2), (14, .ptr 2 0), (16, .ptr 3 0)], ((2, ⟨31, 0, (cs_Ratio x_45726.1)⟩) :: ((3, ⟨31, 0, (cs_Ratio x_45751.1)⟩) :: (growH 0 ⟨31, 2, flat cs_Ratio e_45754.1⟩ e_45754.1 (growH 1 ⟨31, 2, flat cs_Ratio e_45754.2.1⟩ e_45754.2.1 [])))), 4⟩ (to_trim (by kernel_rfl) (leB rfl)) ?_
                        refine w_seq (fun K hK_45767 => w_reg0 ?_)
                        refine dd_run 0 3 rfl (by kernel_rfl) ?_
                        obtain ⟨x_45770, h_45771, h⟩ := bind_some' h
                        refine dd_one 3 (.call ⟨.builtin .append, #[(.tmp 140), (.tmp 142)], #[24, 24]⟩) (some 143) (by kernel_rfl) (o_heap (.own 4 x_45770.length) ((4, ⟨31, 2, flat cs_Ratio x_45770⟩) :: ((2, ⟨31, 0, (cs_Ratio x_45726.1)⟩) :: ((3, ⟨31, 0, (cs_Ratio x_45751.1)⟩) :: (growH 1 ⟨31, 2, flat cs_Ratio e_45754.2.1⟩ e_45754.2.1 [])))) 5 (by kernel_rfl) (hv_append (sv := growE 0 e_45754.1) (xv := sl 2 cs_Ratio [x_45726.1]) (by kernel_rfl) (by kernel_rfl) (app_new (e := 31) (k := 2) (c := cs_Ratio) h_45771 (.inl (appO_pos h_45771)) (by kernel_rfl) (by kernel_rfl) (by kernel_rfl) (by kernel_rfl : zeroT _ _ = some [I 0, I 0]) (leB rfl) rfl (old_grow (k := 2) (c := cs_Ratio) (A := [(2, ⟨31, 0, (cs_Ratio x_45726.1)⟩), (3, ⟨31, 0, (cs_Ratio x_45751.1)⟩)]) (T := (growH 1 ⟨31, 2, flat cs_Ratio e_45754.2.1⟩ e_45754.2.1 [])) (fun _ => rfl) _ (by kernel_rfl) (by kernel_rfl) (del_app (by kernel_rfl) (del_growT (by decide) rfl)) (by kernel_rfl)) (new_sl (k := 2) (c := cs_Ratio) (fun _ => rfl) _))) rfl) ?_
                        refine ops_fin' hK_45767 ⟨[(0, sl 2 cs_Ratio a1), (1, sl 2 cs_Ratio a2), (3, sl 2 cs_Ratio a4), (9, B x_44762), (10, B x_44795), (11, .own 4 x_45770.length), (12, growE 1 e_45754.2.1), (13, I s_45622.2.2), (16, .ptr 3 0)], ((4, ⟨31, 2, flat cs_Ratio x_45770⟩) :: ((2, ⟨31, 0, (cs_Ratio x_45726.1)⟩) :: ((3, ⟨31, 0, (cs_Ratio x_45751.1)⟩) :: (growH 1 ⟨31, 2, flat cs_Ratio e_45754.2.1⟩ e_45754.2.1 [])))), 5⟩ (by kernel_rfl) (leB rfl) ?_
                        refine w_reg0 ?_
                        refine dd_run 0 3 rfl (by kernel_rfl) ?_
                        obtain ⟨x_45774, h_45775, h⟩ := bind_some' h
                        refine dd_one 3 (.call ⟨.builtin .append, #[(.tmp 144), (.tmp 146)], #[24, 24]⟩) (some 147) (by kernel_rfl) (o_heap (.own 5 x_45774.length) [(5, ⟨31, 2, flat cs_Ratio x_45774⟩), (4, ⟨31, 2, flat cs_Ratio x_45770⟩), (2, ⟨31, 0, (cs_Ratio x_45726.1)⟩), (3, ⟨31, 0, (cs_Ratio x_45751.1)⟩)] 6 (by kernel_rfl) (hv_append (sv := growE 1 e_45754.2.1) (xv := sl 2 cs_Ratio [x_45751.1]) (by kernel_rfl) (by kernel_rfl) (app_new (e := 31) (k := 2) (c := cs_Ratio) h_45775 (.inl (appO_pos h_45775)) (by kernel_rfl) (by kernel_rfl) (by kernel_rfl) (by kernel_rfl : zeroT _ _ = some [I 0, I 0]) (leB rfl) rfl (old_grow (k := 2) (c := cs_Ratio) (A := [(4, ⟨31, 2, flat cs_Ratio x_45770⟩), (2, ⟨31, 0, (cs_Ratio x_45726.1)⟩), (3, ⟨31, 0, (cs_Ratio x_45751.1)⟩)]) (T := []) (fun _ => rfl) _ (by kernel_rfl) (by kernel_rfl) (by kernel_rfl) (by kernel_rfl)) (new_sl (k := 2) (c := cs_Ratio) (fun _ => rfl) _))) rfl) ?_
                        refine dd_run 4 5 rfl (by kernel_rfl) ?_
                        refine dd_nil 5 rfl ?_
                        refine hK_45702 _ ⟨[(0, sl 2 cs_Ratio a1), (1, sl 2 cs_Ratio a2), (3, sl 2 cs_Ratio a4), (9, B x_44762), (10, B x_44795), (11, .own 4 x_45770.length), (12, .own 5 x_45774.length), (13, I s_45622.2.2)], [(5, ⟨31, 2, flat cs_Ratio x_45774⟩), (4, ⟨31, 2, flat cs_Ratio x_45770⟩), (2, ⟨31, 0, (cs_Ratio x_45726.1)⟩), (3, ⟨31, 0, (cs_Ratio x_45751.1)⟩)], 6⟩ (to_trim (by kernel_rfl) (leB rfl)) ?_
                        refine w_reg0 ?_
                        refine dd_run 0 3 rfl (by kernel_rfl) ?_
                        refine dd_nil 3 rfl ?_
                        obtain ⟨y_, ys_, hy_⟩ := ne_cons (appO_pos h_45771); subst hy_
                        obtain ⟨y_, ys_, hy_⟩ := ne_cons (appO_pos h_45775); subst hy_
                        exact hK_45624 _ _ (Option.some.inj h).symm (to_ren [(0, 4), (1, 5)] (leB rfl) (by kernel_rfl) (by kernel_rfl) (renE_of (by kernel_rfl) (by kernel_rfl)) ⟨rePl (by kernel_rfl) (leB rfl) (flat_all _ (fun _ => rfl) _), ⟨rePl (by kernel_rfl) (leB rfl) (flat_all _ (fun _ => rfl) _), trivial⟩⟩)
                  · refine w_exit ?_
                    exact hK_45317 _ _ (h_45623 _ (Option.some.inj h).symm).symm (to_trans (to_freezeG 11 0 s_45622.1 31 [] (growH 1 ⟨31, 2, flat cs_Ratio s_45622.2.1⟩ s_45622.2.1 []) (k := 2) (c := cs_Ratio) (leB rfl) (by kernel_rfl) (by kernel_rfl) (by kernel_rfl) (free_grow (by kernel_rfl) (free_nil _)) (by kernel_rfl) (leB rfl) (fun _ => rfl) (fun _ => rfl) (fun _ => rfl)) (to_trans (to_freezeG 12 1 s_45622.2.1 31 [] [] (k := 2) (c := cs_Ratio) (leB rfl) (by kernel_rfl) (by kernel_rfl) (by kernel_rfl) (free_nil _) (by kernel_rfl) (leB rfl) (fun _ => rfl) (fun _ => rfl) (fun _ => rfl)) (to_ren [] (leB rfl) (by kernel_rfl) (by kernel_rfl) (renE_of (by kernel_rfl) (by kernel_rfl)) trivial)))
              · refine w_seq (fun K hK_45779 => w_reg0 ?_)
                refine dd_run 0 2 rfl (by kernel_rfl) ?_
                refine ite_both h (fun h_45780 h => ?_) (fun h_45780 h => ?_)
                · refine dd_runG 2 4 1 true rfl (b := x_44762) (by kernel_rfl) h_45780 (by kernel_rfl) ?_
                  obtain ⟨x_45781, h_45782, h⟩ := bind_some' h
                  refine dd_oneG 4 (.call ⟨.value (.func 15), #[(.tmp 150), (.tmp 151)], #[24, 24]⟩) (some 152) 1 true (b := x_44762) (by kernel_rfl) (by kernel_rfl) h_45780 (o_callP (g_quantity_Covers_ok h_45782) (by kernel_rfl) rfl) ?_
                  refine dd_runG 5 7 1 true rfl (b := x_44762) (by kernel_rfl) h_45780 (by kernel_rfl) ?_
                  refine dd_one 7 (.pick (.tmp 149) (.tmp 154) (.const (.bool false))) (some 155) (by kernel_rfl) (o_pure (B (x_45781 == x_44795)) (ev_pickT h_45780 (by kernel_rfl) (by kernel_rfl)) rfl) ?_
                  refine ops_fin' hK_45779 ⟨[(8, B (x_45781 == x_44795))], [], 0⟩ (by kernel_rfl) (leB rfl) ?_
                  refine w_ret ?_
                  obtain rfl := ((Option.some.inj h).symm).symm
                  exact ret_leaf (.inl rfl) ⟨[(8, B (x_45781 == x_44795))], [], 0⟩ (to_ren [] (leB rfl) (by kernel_rfl) (by kernel_rfl) (renE_of (by kernel_rfl) (by kernel_rfl)) trivial) [B (x_45781 == x_44795)] (by kernel_rfl) (by kernel_rfl) (leB rfl) (by kernel_rfl) trivial
                · refine dd_skip 2 7 1 true rfl (b := x_44762) (by kernel_rfl) h_45780 (by kernel_rfl) ?_
                  refine dd_one 7 (.pick (.tmp 149) (.tmp 154) (.const (.bool false))) (some 155) (by kernel_rfl) (o_pure (B false) (ev_pickF h_45780 (by kernel_rfl) (by kernel_rfl)) rfl) ?_
                  refine ops_fin' hK_45779 ⟨[(8, B false)], [], 0⟩ (by kernel_rfl) (leB rfl) ?_
                  refine w_ret ?_
                  obtain rfl := ((Option.some.inj h).symm).symm
                  exact ret_leaf (.inl rfl) ⟨[(8, B false)], [], 0⟩ (to_ren [] (leB rfl) (by kernel_rfl) (by kernel_rfl) (renE_of (by kernel_rfl) (by kernel_rfl)) trivial) [B false] (by kernel_rfl) (by kernel_rfl) (leB rfl) (by kernel_rfl) trivial
end Go.Proofs.YtdfokoapenhalaaDoor.Ab
