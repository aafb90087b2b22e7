/- Functions of the program as plain functions (printed by wip/dec.py). -/
import Derived.Test.YtdfokoapenhalaaDoorDq9
import Derived.Test.YtdfokoapenhalaaDoorDq10
import Derived.Test.YtdfokoapenhalaaDoorDq11
namespace Go.Proofs.YtdfokoapenhalaaDoor.Ab
open Go Go.RowKit Go.Shelf
/-- estoppel/estoppelref04.Sum -/
def g_estoppelref04_Sum (a1 : List D.Unit) (a2 : List D.Amount) (a3 : Int) : Option (D.Amount × Int) :=
  (g_estoppelref04_Valid a1).bind fun x_37182 =>
  bindF (ρ := Bool) (
  if (!x_37182.2) = true then
  some (.inl true)
  else
  if (decide (a3 < 0)) = true then
  some (.inl true)
  else
  some (.inl (decide (a3 ≥ (a1.length : Int))))) (fun (e_37186 : Bool) =>
  if e_37186 = true then
  some ((D.Amount.mk 0 (D.Ratio.mk 0 0)), 1)
  else
  bindF (ρ := Bool) (
  loopO (σ := Bool × Int) (fun s_37713 =>
  if (decide (s_37713.2 < (a2.length : Int))) = true then
  (getI a2 s_37713.2).bind fun x_37781 =>
  (g_estoppelref04_May a1 x_37781).bind fun x_37783 =>
  if (!x_37783) = true then
  some (.inr (.inr ((D.Amount.mk 0 (D.Ratio.mk 0 0)), 1)))
  else
  if s_37713.1 = true then
  some (.inl (true, (IntKind.i64.wrap (s_37713.2 + 1))))
  else
  (getI a2 s_37713.2).bind fun x_37797 =>
  (getI a1 x_37797.Unit).bind fun x_37805 =>
  (getI a1 a3).bind fun x_37817 =>
  some (.inl ((x_37805.Base != x_37817.Base), (IntKind.i64.wrap (s_37713.2 + 1))))
  else
  some (.inr (.inl s_37713.1))) (false, 0)) (fun (e_37504 : Bool) =>
  if e_37504 = true then
  some ((D.Amount.mk 0 (D.Ratio.mk 0 0)), 11)
  else
  bindF (ρ := D.Ratio) (
  loopO (σ := D.Ratio × Int) (fun s_38355 =>
  if (decide (s_38355.2 < (a2.length : Int))) = true then
  (getI a2 s_38355.2).bind fun x_38438 =>
  (getI a2 s_38355.2).bind fun x_38442 =>
  (getI a1 x_38442.Unit).bind fun x_38446 =>
  (getI a1 a3).bind fun x_38450 =>
  (g_estoppelref04_scaled x_38438.Value x_38446.Factor x_38450.Factor).bind fun x_38452 =>
  if (x_38452.2 != 0) = true then
  some (.inr (.inr ((D.Amount.mk 0 (D.Ratio.mk 0 0)), x_38452.2)))
  else
  (g_estoppelref01_Add s_38355.1 x_38452.1).bind fun x_38460 =>
  if (x_38460.2 != 0) = true then
  some (.inr (.inr ((D.Amount.mk 0 (D.Ratio.mk 0 0)), x_38460.2)))
  else
  some (.inl (x_38460.1, (IntKind.i64.wrap (s_38355.2 + 1))))
  else
  some (.inr (.inl s_38355.1))) ((D.Ratio.mk 0 1), 0)) (fun (e_38140 : D.Ratio) =>
  some ((D.Amount.mk a3 e_38140), 0))))
set_option maxHeartbeats 4000000 in
theorem g_estoppelref04_Sum_ok {a1 : List D.Unit} {a2 : List D.Amount} {a3 : Int} {res : D.Amount × Int} (h : g_estoppelref04_Sum a1 a2 a3 = some res) : SpecK Tryd.prog [] 20 [sl 5 cs_Unit a1, sl 3 cs_Amount a2, I a3] [] 0 (.tup [.agg (cs_Amount res.1), I res.2]) [] 0 := by
  refine ⟨spec_of_wp Tryd.func20 (by kernel_rfl) rfl Tryd.ntmps20 (by rw [Tryd.results20]) (leB rfl) ?_, by kernel_rfl, trivial, by kernel_rfl, trivial, by kernel_rfl⟩
  unfold g_estoppelref04_Sum at h
  refine w_reg ⟨[(0, sl 5 cs_Unit a1), (1, sl 3 cs_Amount a2), (2, I a3), (6, .ptr 0 0)], [(0, ⟨33, 0, [I 0, I 0, I 0]⟩)], 1⟩ (by kernel_rfl) (leB rfl) ?_
  refine w_assoc ?_
  refine w_seq (fun K hK_37181 => w_reg0 ?_)
  refine dd_run 0 1 rfl (by kernel_rfl) ?_
  obtain ⟨x_37182, h_37183, h⟩ := bind_some' h
  refine dd_one 1 (.call ⟨.value (.func 14), #[(.tmp 17)], #[22]⟩) (some 18) (by kernel_rfl) (o_callP (g_estoppelref04_Valid_ok h_37183) (by kernel_rfl) rfl) ?_
  refine ops_fin' hK_37181 ⟨[(0, sl 5 cs_Unit a1), (1, sl 3 cs_Amount a2), (2, I a3), (6, .ptr 0 0), (9, B x_37182.2)], [(0, ⟨33, 0, [I 0, I 0, I 0]⟩)], 1⟩ (by kernel_rfl) (leB rfl) ?_
  refine w_assoc ?_
  refine w_cut h (fun (e_37186 : Bool) => ⟨[(0, sl 5 cs_Unit a1), (1, sl 3 cs_Amount a2), (2, I a3), (6, .ptr 0 0), (32, B e_37186)], [(0, ⟨33, 0, [I 0, I 0, I 0]⟩)], 1⟩) (fun o h h_37187 K hK_37188 => ?_) (fun e_37186 h => ?_)
  · refine w_reg0 ?_
    refine dd_run 0 3 rfl (by kernel_rfl) ?_
    refine ite_both h (fun h_37189 h => ?_) (fun h_37189 h => ?_)
    · refine dd_skip 3 5 2 false rfl (b := (!x_37182.2)) (by kernel_rfl) h_37189 (by kernel_rfl) ?_
      refine dd_one 5 (.pick (.tmp 23) (.const (.bool true)) (.tmp 25)) (some 26) (by kernel_rfl) (o_pure (B true) (ev_pickT h_37189 (by kernel_rfl) (by kernel_rfl)) rfl) ?_
      refine dd_run 6 7 rfl (by kernel_rfl) ?_
      refine dd_skip 7 11 6 false rfl (b := true) (by kernel_rfl) rfl (by kernel_rfl) ?_
      refine dd_run 11 12 rfl (by kernel_rfl) ?_
      refine dd_nil 12 rfl ?_
      exact hK_37188 _ _ (Option.some.inj h).symm (to_ren [] (leB rfl) (by kernel_rfl) (by kernel_rfl) (renE_of (by kernel_rfl) (by kernel_rfl)) ⟨reRn (by kernel_rfl) (leB rfl) (by kernel_rfl), trivial⟩)
    · refine dd_runG 3 5 2 false rfl (b := (!x_37182.2)) (by kernel_rfl) h_37189 (by kernel_rfl) ?_
      refine dd_one 5 (.pick (.tmp 23) (.const (.bool true)) (.tmp 25)) (some 26) (by kernel_rfl) (o_pure (B (decide (a3 < 0))) (ev_pickF h_37189 (by kernel_rfl) (by kernel_rfl)) rfl) ?_
      refine dd_run 6 7 rfl (by kernel_rfl) ?_
      refine ite_both h (fun h_37190 h => ?_) (fun h_37190 h => ?_)
      · refine dd_skip 7 11 6 false rfl (b := (decide (a3 < 0))) (by kernel_rfl) h_37190 (by kernel_rfl) ?_
        refine dd_one 11 (.pick (.tmp 27) (.const (.bool true)) (.tmp 31)) (some 32) (by kernel_rfl) (o_pure (B true) (ev_pickT h_37190 (by kernel_rfl) (by kernel_rfl)) rfl) ?_
        refine dd_nil 12 rfl ?_
        exact hK_37188 _ _ (Option.some.inj h).symm (to_ren [] (leB rfl) (by kernel_rfl) (by kernel_rfl) (renE_of (by kernel_rfl) (by kernel_rfl)) ⟨reRn (by kernel_rfl) (leB rfl) (by kernel_rfl), trivial⟩)
      · refine dd_runG 7 9 6 false rfl (b := (decide (a3 < 0))) (by kernel_rfl) h_37190 (by kernel_rfl) ?_
        refine dd_oneG 9 (.call ⟨.builtin .len, #[(.tmp 29)], #[22]⟩) (some 30) 6 false (b := (decide (a3 < 0))) (by kernel_rfl) (by kernel_rfl) h_37190 (o_pure (I (a1.length : Int)) (ev_len_sl (e := 42) (ty := 0) (k := 5) (c := cs_Unit) (by kernel_rfl) (by kernel_rfl)) rfl) ?_
        refine dd_runG 10 11 6 false rfl (b := (decide (a3 < 0))) (by kernel_rfl) h_37190 (by kernel_rfl) ?_
        refine dd_one 11 (.pick (.tmp 27) (.const (.bool true)) (.tmp 31)) (some 32) (by kernel_rfl) (o_pure (B (decide (a3 ≥ (a1.length : Int)))) (ev_pickF h_37190 (by kernel_rfl) (by kernel_rfl)) rfl) ?_
        refine dd_nil 12 rfl ?_
        exact hK_37188 _ _ (Option.some.inj h).symm (to_ren [] (leB rfl) (by kernel_rfl) (by kernel_rfl) (renE_of (by kernel_rfl) (by kernel_rfl)) ⟨reRn (by kernel_rfl) (leB rfl) (by kernel_rfl), trivial⟩)
  · refine w_seq (fun K hK_37192 => ?_)
    refine w_ite h (by kernel_rfl) (fun h_37193 h => ?_) (fun h_37193 h => ?_)
    · refine w_reg ⟨[(6, .ptr 0 0), (7, I 1)], [(0, ⟨33, 0, [I 0, I 0, I 0]⟩)], 1⟩ (by kernel_rfl) (leB rfl) ?_
      refine w_ret ?_
      obtain rfl := ((Option.some.inj h).symm).symm
      exact ret_leaf (.inl rfl) ⟨[(6, .ptr 0 0), (7, I 1)], [(0, ⟨33, 0, (cs_Amount (D.Amount.mk 0 (D.Ratio.mk 0 0)))⟩)], 1⟩ (to_ren [] (leB rfl) (by kernel_rfl) (by kernel_rfl) (renE_of (by kernel_rfl) (by kernel_rfl)) ⟨reRn (by kernel_rfl) (leB rfl) (by kernel_rfl), trivial⟩) [.agg (cs_Amount (D.Amount.mk 0 (D.Ratio.mk 0 0))), I 1] (by kernel_rfl) (by kernel_rfl) (leB rfl) (by kernel_rfl) trivial
    · refine w_skip ?_
      refine hK_37192 _ ⟨[(0, sl 5 cs_Unit a1), (1, sl 3 cs_Amount a2), (2, I a3), (6, .ptr 0 0)], [(0, ⟨33, 0, [I 0, I 0, I 0]⟩)], 1⟩ (to_trim (by kernel_rfl) (leB rfl)) ?_
      refine w_reg ⟨[(0, sl 5 cs_Unit a1), (1, sl 3 cs_Amount a2), (2, I a3), (6, .ptr 0 0), (10, B false)], [(0, ⟨33, 0, [I 0, I 0, I 0]⟩)], 1⟩ (by kernel_rfl) (leB rfl) ?_
      refine w_assoc ?_
      refine w_reg ⟨[(0, sl 5 cs_Unit a1), (1, sl 3 cs_Amount a2), (2, I a3), (6, .ptr 0 0), (10, B false), (11, I 0)], [(0, ⟨33, 0, [I 0, I 0, I 0]⟩)], 1⟩ (by kernel_rfl) (leB rfl) ?_
      refine w_cut h (fun (e_37504 : Bool) => ⟨[(0, sl 5 cs_Unit a1), (1, sl 3 cs_Amount a2), (2, I a3), (6, .ptr 0 0), (10, B e_37504)], [(0, ⟨33, 0, [I 0, I 0, I 0]⟩)], 1⟩) (fun o h h_37505 K hK_37506 => ?_) (fun e_37504 h => ?_)
      · refine w_block ?_
        refine w_loopO h (fun (s_37713 : Bool × Int) => ⟨[(0, sl 5 cs_Unit a1), (1, sl 3 cs_Amount a2), (2, I a3), (6, .ptr 0 0), (10, B s_37713.1), (11, I s_37713.2)], [(0, ⟨33, 0, [I 0, I 0, I 0]⟩)], 1⟩) (to_ren [] (leB rfl) (by kernel_rfl) (by kernel_rfl) (renE_of (by kernel_rfl) (by kernel_rfl)) ⟨reRn (by kernel_rfl) (leB rfl) (by kernel_rfl), trivial⟩) (fun s_37713 o h h_37714 K hK_37715 => ?_)
        · refine w_assoc ?_
          refine w_seq (fun K hK_37716 => w_reg0 ?_)
          refine dd_run 0 2 rfl (by kernel_rfl) ?_
          refine dd_one 2 (.call ⟨.builtin .len, #[(.tmp 35)], #[23]⟩) (some 36) (by kernel_rfl) (o_pure (I (a2.length : Int)) (ev_len_sl (e := 33) (ty := 0) (k := 3) (c := cs_Amount) (by kernel_rfl) (by kernel_rfl)) rfl) ?_
          refine ops_fin' hK_37716 ⟨[(0, sl 5 cs_Unit a1), (1, sl 3 cs_Amount a2), (2, I a3), (6, .ptr 0 0), (10, B s_37713.1), (11, I s_37713.2), (37, B (decide (s_37713.2 < (a2.length : Int))))], [(0, ⟨33, 0, [I 0, I 0, I 0]⟩)], 1⟩ (by kernel_rfl) (leB rfl) ?_
          refine w_seq (fun K hK_37718 => ?_)
          refine w_ite h (by kernel_rfl) (fun h_37719 h => ?_) (fun h_37719 h => ?_)
          · refine w_skip ?_
            refine hK_37718 _ ⟨[(0, sl 5 cs_Unit a1), (1, sl 3 cs_Amount a2), (2, I a3), (6, .ptr 0 0), (10, B s_37713.1), (11, I s_37713.2)], [(0, ⟨33, 0, [I 0, I 0, I 0]⟩)], 1⟩ (to_trim (by kernel_rfl) (leB rfl)) ?_
            refine w_seq (fun K hK_37769 => ?_)
            refine w_block ?_
            refine w_assoc ?_
            refine w_seq (fun K hK_37778 => w_reg0 ?_)
            refine dd_run 0 3 rfl (by kernel_rfl) ?_
            obtain ⟨x_37781, h_37782, h⟩ := bind_some' h
            refine dd_one 3 (.indexAddr 23 (.tmp 41) (.tmp 42)) (some 43) (by kernel_rfl) (o_pure (.ip (cs_Amount x_37781)) (ev_idx_sl (e := 33) (k := 3) (c := cs_Amount) (ik := .i64) h_37782 (by kernel_rfl) (by kernel_rfl) (by kernel_rfl) (by kernel_rfl)) rfl) ?_
            refine dd_run 4 5 rfl (by kernel_rfl) ?_
            obtain ⟨x_37783, h_37784, h⟩ := bind_some' h
            refine dd_one 5 (.call ⟨.value (.func 36), #[(.tmp 40), (.tmp 44)], #[22, 33]⟩) (some 45) (by kernel_rfl) (o_callP (g_estoppelref04_May_ok h_37784) (by kernel_rfl) rfl) ?_
            refine ops_fin' hK_37778 ⟨[(0, sl 5 cs_Unit a1), (1, sl 3 cs_Amount a2), (2, I a3), (6, .ptr 0 0), (10, B s_37713.1), (11, I s_37713.2), (46, B (!x_37783))], [(0, ⟨33, 0, [I 0, I 0, I 0]⟩)], 1⟩ (by kernel_rfl) (leB rfl) ?_
            refine w_seq (fun K hK_37786 => ?_)
            refine w_ite h (by kernel_rfl) (fun h_37787 h => ?_) (fun h_37787 h => ?_)
            · refine w_reg ⟨[(6, .ptr 0 0), (7, I 1)], [(0, ⟨33, 0, [I 0, I 0, I 0]⟩)], 1⟩ (by kernel_rfl) (leB rfl) ?_
              refine w_ret ?_
              obtain rfl := ((h_37505 _ (h_37714 _ (Option.some.inj h).symm).symm).symm).symm
              exact ret_leaf (.inl rfl) ⟨[(6, .ptr 0 0), (7, I 1)], [(0, ⟨33, 0, (cs_Amount (D.Amount.mk 0 (D.Ratio.mk 0 0)))⟩)], 1⟩ (to_ren [] (leB rfl) (by kernel_rfl) (by kernel_rfl) (renE_of (by kernel_rfl) (by kernel_rfl)) ⟨reRn (by kernel_rfl) (leB rfl) (by kernel_rfl), trivial⟩) [.agg (cs_Amount (D.Amount.mk 0 (D.Ratio.mk 0 0))), I 1] (by kernel_rfl) (by kernel_rfl) (leB rfl) (by kernel_rfl) trivial
            · refine w_skip ?_
              refine hK_37786 _ ⟨[(0, sl 5 cs_Unit a1), (1, sl 3 cs_Amount a2), (2, I a3), (6, .ptr 0 0), (10, B s_37713.1), (11, I s_37713.2)], [(0, ⟨33, 0, [I 0, I 0, I 0]⟩)], 1⟩ (to_trim (by kernel_rfl) (leB rfl)) ?_
              refine w_mix0 (by kernel_rfl) (by kernel_rfl) ?_
              refine mm_run 0 2 rfl (by kernel_rfl) ?_
              refine ite_both h (fun h_37788 h => ?_) (fun h_37788 h => ?_)
              · refine mm_skip 2 (.move (.tmp 0)) (some 50) 1 false (b := s_37713.1) (by kernel_rfl) (by kernel_rfl) (by kernel_rfl) h_37788 rfl ?_
                refine mm_skip 3 (.move (.tmp 1)) (some 51) 1 false (b := s_37713.1) (by kernel_rfl) (by kernel_rfl) (by kernel_rfl) h_37788 rfl ?_
                refine mm_skip 4 (.move (.tmp 11)) (some 52) 1 false (b := s_37713.1) (by kernel_rfl) (by kernel_rfl) (by kernel_rfl) h_37788 rfl ?_
                refine mm_skip 5 (.indexAddr 23 (.tmp 51) (.tmp 52)) (some 53) 1 false (b := s_37713.1) (by kernel_rfl) (by kernel_rfl) (by kernel_rfl) h_37788 rfl ?_
                refine mm_skip 6 (.fieldAddr 33 (.tmp 53) 0) (some 54) 1 false (b := s_37713.1) (by kernel_rfl) (by kernel_rfl) (by kernel_rfl) h_37788 rfl ?_
                refine mm_skip 7 (.load 3 (.tmp 54)) (some 55) 1 false (b := s_37713.1) (by kernel_rfl) (by kernel_rfl) (by kernel_rfl) h_37788 rfl ?_
                refine mm_skip 8 (.indexAddr 22 (.tmp 50) (.tmp 55)) (some 56) 1 false (b := s_37713.1) (by kernel_rfl) (by kernel_rfl) (by kernel_rfl) h_37788 rfl ?_
                refine mm_skip 9 (.fieldAddr 42 (.tmp 56) 2) (some 57) 1 false (b := s_37713.1) (by kernel_rfl) (by kernel_rfl) (by kernel_rfl) h_37788 rfl ?_
                refine mm_skip 10 (.load 3 (.tmp 57)) (some 58) 1 false (b := s_37713.1) (by kernel_rfl) (by kernel_rfl) (by kernel_rfl) h_37788 rfl ?_
                refine mm_skip 11 (.move (.tmp 0)) (some 59) 1 false (b := s_37713.1) (by kernel_rfl) (by kernel_rfl) (by kernel_rfl) h_37788 rfl ?_
                refine mm_skip 12 (.move (.tmp 2)) (some 60) 1 false (b := s_37713.1) (by kernel_rfl) (by kernel_rfl) (by kernel_rfl) h_37788 rfl ?_
                refine mm_skip 13 (.indexAddr 22 (.tmp 59) (.tmp 60)) (some 61) 1 false (b := s_37713.1) (by kernel_rfl) (by kernel_rfl) (by kernel_rfl) h_37788 rfl ?_
                refine mm_skip 14 (.fieldAddr 42 (.tmp 61) 2) (some 62) 1 false (b := s_37713.1) (by kernel_rfl) (by kernel_rfl) (by kernel_rfl) h_37788 rfl ?_
                refine mm_skip 15 (.load 3 (.tmp 62)) (some 63) 1 false (b := s_37713.1) (by kernel_rfl) (by kernel_rfl) (by kernel_rfl) h_37788 rfl ?_
                refine mm_skip 16 (.binOp .neq 3 (.tmp 58) (.tmp 63) 3) (some 64) 1 false (b := s_37713.1) (by kernel_rfl) (by kernel_rfl) (by kernel_rfl) h_37788 rfl ?_
                refine mm_one 17 (.pick (.tmp 49) (.const (.bool true)) (.tmp 64)) (some 65) (by kernel_rfl) (by kernel_rfl) (oH_pure (B true) (ev_pickT h_37788 (by kernel_rfl) (by kernel_rfl)) rfl) ?_
                refine mm_run 18 19 rfl (by kernel_rfl) ?_
                refine mm_nil 19 rfl ?_
                refine hK_37769 _ ⟨[(0, sl 5 cs_Unit a1), (1, sl 3 cs_Amount a2), (2, I a3), (6, .ptr 0 0), (10, B true), (11, I s_37713.2)], [(0, ⟨33, 0, [I 0, I 0, I 0]⟩)], 1⟩ (to_trim (by kernel_rfl) (leB rfl)) ?_
                refine w_reg0 ?_
                refine dd_run 0 3 rfl (by kernel_rfl) ?_
                refine dd_nil 3 rfl ?_
                exact hK_37715 _ _ (Option.some.inj h).symm (to_ren [] (leB rfl) (by kernel_rfl) (by kernel_rfl) (renE_of (by kernel_rfl) (by kernel_rfl)) ⟨reRn (by kernel_rfl) (leB rfl) (by kernel_rfl), trivial⟩)
              · refine mm_oneG 2 (.move (.tmp 0)) (some 50) 1 false (b := s_37713.1) (by kernel_rfl) (by kernel_rfl) (by kernel_rfl) h_37788 (oH_pure (sl 5 cs_Unit a1) (by kernel_rfl) rfl) ?_
                refine mm_oneG 3 (.move (.tmp 1)) (some 51) 1 false (b := s_37713.1) (by kernel_rfl) (by kernel_rfl) (by kernel_rfl) h_37788 (oH_pure (sl 3 cs_Amount a2) (by kernel_rfl) rfl) ?_
                refine mm_oneG 4 (.move (.tmp 11)) (some 52) 1 false (b := s_37713.1) (by kernel_rfl) (by kernel_rfl) (by kernel_rfl) h_37788 (oH_pure (I s_37713.2) (by kernel_rfl) rfl) ?_
                obtain ⟨x_37797, h_37798, h⟩ := bind_some' h
                refine mm_oneG 5 (.indexAddr 23 (.tmp 51) (.tmp 52)) (some 53) 1 false (b := s_37713.1) (by kernel_rfl) (by kernel_rfl) (by kernel_rfl) h_37788 (oH_pure (.ip (cs_Amount x_37797)) (ev_idx_sl (e := 33) (k := 3) (c := cs_Amount) (ik := .i64) h_37798 (by kernel_rfl) (by kernel_rfl) (by kernel_rfl) (by kernel_rfl)) rfl) ?_
                refine mm_oneG 6 (.fieldAddr 33 (.tmp 53) 0) (some 54) 1 false (b := s_37713.1) (by kernel_rfl) (by kernel_rfl) (by kernel_rfl) h_37788 (oH_pure (.ip (cs_Amount x_37797)) (by kernel_rfl) rfl) ?_
                refine mm_oneG 7 (.load 3 (.tmp 54)) (some 55) 1 false (b := s_37713.1) (by kernel_rfl) (by kernel_rfl) (by kernel_rfl) h_37788 (oH_pure (I x_37797.Unit) (by kernel_rfl) rfl) ?_
                obtain ⟨x_37805, h_37806, h⟩ := bind_some' h
                refine mm_oneG 8 (.indexAddr 22 (.tmp 50) (.tmp 55)) (some 56) 1 false (b := s_37713.1) (by kernel_rfl) (by kernel_rfl) (by kernel_rfl) h_37788 (oH_pure (.ip (cs_Unit x_37805)) (ev_idx_sl (e := 42) (k := 5) (c := cs_Unit) (ik := .i64) h_37806 (by kernel_rfl) (by kernel_rfl) (by kernel_rfl) (by kernel_rfl)) rfl) ?_
                refine mm_oneG 9 (.fieldAddr 42 (.tmp 56) 2) (some 57) 1 false (b := s_37713.1) (by kernel_rfl) (by kernel_rfl) (by kernel_rfl) h_37788 (oH_pure (.ip (((cs_Unit x_37805)).drop 2)) (by kernel_rfl) rfl) ?_
                refine mm_oneG 10 (.load 3 (.tmp 57)) (some 58) 1 false (b := s_37713.1) (by kernel_rfl) (by kernel_rfl) (by kernel_rfl) h_37788 (oH_pure (I x_37805.Base) (by kernel_rfl) rfl) ?_
                refine mm_oneG 11 (.move (.tmp 0)) (some 59) 1 false (b := s_37713.1) (by kernel_rfl) (by kernel_rfl) (by kernel_rfl) h_37788 (oH_pure (sl 5 cs_Unit a1) (by kernel_rfl) rfl) ?_
                refine mm_oneG 12 (.move (.tmp 2)) (some 60) 1 false (b := s_37713.1) (by kernel_rfl) (by kernel_rfl) (by kernel_rfl) h_37788 (oH_pure (I a3) (by kernel_rfl) rfl) ?_
                obtain ⟨x_37817, h_37818, h⟩ := bind_some' h
                refine mm_oneG 13 (.indexAddr 22 (.tmp 59) (.tmp 60)) (some 61) 1 false (b := s_37713.1) (by kernel_rfl) (by kernel_rfl) (by kernel_rfl) h_37788 (oH_pure (.ip (cs_Unit x_37817)) (ev_idx_sl (e := 42) (k := 5) (c := cs_Unit) (ik := .i64) h_37818 (by kernel_rfl) (by kernel_rfl) (by kernel_rfl) (by kernel_rfl)) rfl) ?_
                refine mm_oneG 14 (.fieldAddr 42 (.tmp 61) 2) (some 62) 1 false (b := s_37713.1) (by kernel_rfl) (by kernel_rfl) (by kernel_rfl) h_37788 (oH_pure (.ip (((cs_Unit x_37817)).drop 2)) (by kernel_rfl) rfl) ?_
                refine mm_oneG 15 (.load 3 (.tmp 62)) (some 63) 1 false (b := s_37713.1) (by kernel_rfl) (by kernel_rfl) (by kernel_rfl) h_37788 (oH_pure (I x_37817.Base) (by kernel_rfl) rfl) ?_
                refine mm_oneG 16 (.binOp .neq 3 (.tmp 58) (.tmp 63) 3) (some 64) 1 false (b := s_37713.1) (by kernel_rfl) (by kernel_rfl) (by kernel_rfl) h_37788 (oH_pure (B (x_37805.Base != x_37817.Base)) (by kernel_rfl) rfl) ?_
                refine mm_one 17 (.pick (.tmp 49) (.const (.bool true)) (.tmp 64)) (some 65) (by kernel_rfl) (by kernel_rfl) (oH_pure (B (x_37805.Base != x_37817.Base)) (ev_pickF h_37788 (by kernel_rfl) (by kernel_rfl)) rfl) ?_
                refine mm_run 18 19 rfl (by kernel_rfl) ?_
                refine mm_nil 19 rfl ?_
                refine hK_37769 _ ⟨[(0, sl 5 cs_Unit a1), (1, sl 3 cs_Amount a2), (2, I a3), (6, .ptr 0 0), (10, B (x_37805.Base != x_37817.Base)), (11, I s_37713.2)], [(0, ⟨33, 0, [I 0, I 0, I 0]⟩)], 1⟩ (to_trim (by kernel_rfl) (leB rfl)) ?_
                refine w_reg0 ?_
                refine dd_run 0 3 rfl (by kernel_rfl) ?_
                refine dd_nil 3 rfl ?_
                exact hK_37715 _ _ (Option.some.inj h).symm (to_ren [] (leB rfl) (by kernel_rfl) (by kernel_rfl) (renE_of (by kernel_rfl) (by kernel_rfl)) ⟨reRn (by kernel_rfl) (leB rfl) (by kernel_rfl), trivial⟩)
          · refine w_exit ?_
            exact hK_37506 _ _ (h_37714 _ (Option.some.inj h).symm).symm (to_ren [] (leB rfl) (by kernel_rfl) (by kernel_rfl) (renE_of (by kernel_rfl) (by kernel_rfl)) ⟨reRn (by kernel_rfl) (leB rfl) (by kernel_rfl), trivial⟩)
      · refine w_assoc ?_
        refine w_reg ⟨[(0, sl 5 cs_Unit a1), (1, sl 3 cs_Amount a2), (2, I a3), (6, .ptr 0 0), (66, B e_37504)], [(0, ⟨33, 0, [I 0, I 0, I 0]⟩)], 1⟩ (by kernel_rfl) (leB rfl) ?_
        refine w_seq (fun K hK_37820 => ?_)
        refine w_ite h (by kernel_rfl) (fun h_37821 h => ?_) (fun h_37821 h => ?_)
        · refine w_reg ⟨[(6, .ptr 0 0), (7, I 11)], [(0, ⟨33, 0, [I 0, I 0, I 0]⟩)], 1⟩ (by kernel_rfl) (leB rfl) ?_
          refine w_ret ?_
          obtain rfl := ((Option.some.inj h).symm).symm
          exact ret_leaf (.inl rfl) ⟨[(6, .ptr 0 0), (7, I 11)], [(0, ⟨33, 0, (cs_Amount (D.Amount.mk 0 (D.Ratio.mk 0 0)))⟩)], 1⟩ (to_ren [] (leB rfl) (by kernel_rfl) (by kernel_rfl) (renE_of (by kernel_rfl) (by kernel_rfl)) ⟨reRn (by kernel_rfl) (leB rfl) (by kernel_rfl), trivial⟩) [.agg (cs_Amount (D.Amount.mk 0 (D.Ratio.mk 0 0))), I 11] (by kernel_rfl) (by kernel_rfl) (leB rfl) (by kernel_rfl) trivial
        · refine w_skip ?_
          refine hK_37820 _ ⟨[(0, sl 5 cs_Unit a1), (1, sl 3 cs_Amount a2), (2, I a3), (6, .ptr 0 0)], [(0, ⟨33, 0, [I 0, I 0, I 0]⟩)], 1⟩ (to_trim (by kernel_rfl) (leB rfl)) ?_
          refine w_reg ⟨[(0, sl 5 cs_Unit a1), (1, sl 3 cs_Amount a2), (2, I a3), (6, .ptr 0 0), (12, .ptr 1 0)], [(1, ⟨31, 0, [I 0, I 1]⟩), (0, ⟨33, 0, [I 0, I 0, I 0]⟩)], 2⟩ (by kernel_rfl) (leB rfl) ?_
          refine w_assoc ?_
          refine w_reg ⟨[(0, sl 5 cs_Unit a1), (1, sl 3 cs_Amount a2), (2, I a3), (6, .ptr 0 0), (12, .ptr 1 0), (13, I 0)], [(1, ⟨31, 0, [I 0, I 1]⟩), (0, ⟨33, 0, [I 0, I 0, I 0]⟩)], 2⟩ (by kernel_rfl) (leB rfl) ?_
          refine w_cut h (fun (e_38140 : D.Ratio) => ⟨[(2, I a3), (6, .ptr 0 0), (12, .ptr 1 0)], [(0, ⟨33, 0, [I 0, I 0, I 0]⟩), (1, ⟨31, 0, (cs_Ratio e_38140)⟩)], 2⟩) (fun o h h_38141 K hK_38142 => ?_) (fun e_38140 h => ?_)
          · refine w_block ?_
            refine w_loopO h (fun (s_38355 : D.Ratio × Int) => ⟨[(0, sl 5 cs_Unit a1), (1, sl 3 cs_Amount a2), (2, I a3), (6, .ptr 0 0), (12, .ptr 1 0), (13, I s_38355.2)], [(0, ⟨33, 0, [I 0, I 0, I 0]⟩), (1, ⟨31, 0, (cs_Ratio s_38355.1)⟩)], 2⟩) (to_ren [] (leB rfl) (by kernel_rfl) (by kernel_rfl) (renE_of (by kernel_rfl) (by kernel_rfl)) ⟨reRn (by kernel_rfl) (leB rfl) (by kernel_rfl), ⟨reRn (by kernel_rfl) (leB rfl) (by kernel_rfl), trivial⟩⟩) (fun s_38355 o h h_38356 K hK_38357 => ?_)
            · refine w_assoc ?_
              refine w_seq (fun K hK_38358 => w_reg0 ?_)
              refine dd_run 0 2 rfl (by kernel_rfl) ?_
              refine dd_one 2 (.call ⟨.builtin .len, #[(.tmp 70)], #[23]⟩) (some 71) (by kernel_rfl) (o_pure (I (a2.length : Int)) (ev_len_sl (e := 33) (ty := 0) (k := 3) (c := cs_Amount) (by kernel_rfl) (by kernel_rfl)) rfl) ?_
              refine ops_fin' hK_38358 ⟨[(0, sl 5 cs_Unit a1), (1, sl 3 cs_Amount a2), (2, I a3), (6, .ptr 0 0), (12, .ptr 1 0), (13, I s_38355.2), (72, B (decide (s_38355.2 < (a2.length : Int))))], [(0, ⟨33, 0, [I 0, I 0, I 0]⟩), (1, ⟨31, 0, (cs_Ratio s_38355.1)⟩)], 2⟩ (by kernel_rfl) (leB rfl) ?_
              refine w_seq (fun K hK_38360 => ?_)
              refine w_ite h (by kernel_rfl) (fun h_38361 h => ?_) (fun h_38361 h => ?_)
              · refine w_skip ?_
                refine hK_38360 _ ⟨[(0, sl 5 cs_Unit a1), (1, sl 3 cs_Amount a2), (2, I a3), (6, .ptr 0 0), (12, .ptr 1 0), (13, I s_38355.2)], [(0, ⟨33, 0, [I 0, I 0, I 0]⟩), (1, ⟨31, 0, (cs_Ratio s_38355.1)⟩)], 2⟩ (to_trim (by kernel_rfl) (leB rfl)) ?_
                refine w_seq (fun K hK_38412 => ?_)
                refine w_block ?_
                refine w_seq (fun K hK_38435 => w_mix0 (by kernel_rfl) (by kernel_rfl) ?_)
                refine mm_run 0 2 rfl (by kernel_rfl) ?_
                obtain ⟨x_38438, h_38439, h⟩ := bind_some' h
                refine mm_one 2 (.indexAddr 23 (.tmp 76) (.tmp 77)) (some 78) (by kernel_rfl) (by kernel_rfl) (oH_pure (.ip (cs_Amount x_38438)) (ev_idx_sl (e := 33) (k := 3) (c := cs_Amount) (ik := .i64) h_38439 (by kernel_rfl) (by kernel_rfl) (by kernel_rfl) (by kernel_rfl)) rfl) ?_
                refine mm_run 3 8 rfl (by kernel_rfl) ?_
                obtain ⟨x_38442, h_38443, h⟩ := bind_some' h
                refine mm_one 8 (.indexAddr 23 (.tmp 82) (.tmp 83)) (some 84) (by kernel_rfl) (by kernel_rfl) (oH_pure (.ip (cs_Amount x_38442)) (ev_idx_sl (e := 33) (k := 3) (c := cs_Amount) (ik := .i64) h_38443 (by kernel_rfl) (by kernel_rfl) (by kernel_rfl) (by kernel_rfl)) rfl) ?_
                refine mm_run 9 11 rfl (by kernel_rfl) ?_
                obtain ⟨x_38446, h_38447, h⟩ := bind_some' h
                refine mm_one 11 (.indexAddr 22 (.tmp 81) (.tmp 86)) (some 87) (by kernel_rfl) (by kernel_rfl) (oH_pure (.ip (cs_Unit x_38446)) (ev_idx_sl (e := 42) (k := 5) (c := cs_Unit) (ik := .i64) h_38447 (by kernel_rfl) (by kernel_rfl) (by kernel_rfl) (by kernel_rfl)) rfl) ?_
                refine mm_run 12 16 rfl (by kernel_rfl) ?_
                obtain ⟨x_38450, h_38451, h⟩ := bind_some' h
                refine mm_one 16 (.indexAddr 22 (.tmp 90) (.tmp 91)) (some 92) (by kernel_rfl) (by kernel_rfl) (oH_pure (.ip (cs_Unit x_38450)) (ev_idx_sl (e := 42) (k := 5) (c := cs_Unit) (ik := .i64) h_38451 (by kernel_rfl) (by kernel_rfl) (by kernel_rfl) (by kernel_rfl)) rfl) ?_
                refine mm_run 17 19 rfl (by kernel_rfl) ?_
                obtain ⟨x_38452, h_38453, h⟩ := bind_some' h
                refine mm_one 19 (.call ⟨.value (.func 37), #[(.tmp 80), (.tmp 89), (.tmp 94)], #[31, 31, 31]⟩) (some 95) (by kernel_rfl) (by kernel_rfl) (oH_callP (g_estoppelref04_scaled_ok h_38453) (by kernel_rfl) rfl) ?_
                refine mm_run 20 23 rfl (by kernel_rfl) ?_
                refine mm_ops 23 (.alloc 31) (some 14) none (by kernel_rfl) (by kernel_rfl) ?_
                refine ops_fin' hK_38435 ⟨[(0, sl 5 cs_Unit a1), (1, sl 3 cs_Amount a2), (2, I a3), (6, .ptr 0 0), (12, .ptr 1 0), (13, I s_38355.2), (14, .ptr 2 0), (15, I x_38452.2)], [(2, ⟨31, 0, (cs_Ratio x_38452.1)⟩), (0, ⟨33, 0, [I 0, I 0, I 0]⟩), (1, ⟨31, 0, (cs_Ratio s_38355.1)⟩)], 3⟩ (by kernel_rfl) (leB rfl) ?_
                refine w_assoc ?_
                refine w_reg ⟨[(0, sl 5 cs_Unit a1), (1, sl 3 cs_Amount a2), (2, I a3), (6, .ptr 0 0), (12, .ptr 1 0), (13, I s_38355.2), (14, .ptr 2 0), (15, I x_38452.2), (99, B (x_38452.2 != 0))], [(2, ⟨31, 0, (cs_Ratio x_38452.1)⟩), (0, ⟨33, 0, [I 0, I 0, I 0]⟩), (1, ⟨31, 0, (cs_Ratio s_38355.1)⟩)], 3⟩ (by kernel_rfl) (leB rfl) ?_
                refine w_seq (fun K hK_38455 => ?_)
                refine w_ite h (by kernel_rfl) (fun h_38456 h => ?_) (fun h_38456 h => ?_)
                · refine w_reg ⟨[(6, .ptr 0 0), (7, I x_38452.2)], [(2, ⟨31, 0, (cs_Ratio x_38452.1)⟩), (0, ⟨33, 0, [I 0, I 0, I 0]⟩), (1, ⟨31, 0, (cs_Ratio s_38355.1)⟩)], 3⟩ (by kernel_rfl) (leB rfl) ?_
                  refine w_ret ?_
                  obtain rfl := ((h_38141 _ (h_38356 _ (Option.some.inj h).symm).symm).symm).symm
                  exact ret_leaf (.inl rfl) ⟨[(6, .ptr 0 0), (7, I x_38452.2)], [(0, ⟨33, 0, (cs_Amount (D.Amount.mk 0 (D.Ratio.mk 0 0)))⟩)], 1⟩ (to_ren [] (leB rfl) (by kernel_rfl) (by kernel_rfl) (renE_of (by kernel_rfl) (by kernel_rfl)) ⟨reRn (by kernel_rfl) (leB rfl) (by kernel_rfl), trivial⟩) [.agg (cs_Amount (D.Amount.mk 0 (D.Ratio.mk 0 0))), I x_38452.2] (by kernel_rfl) (by kernel_rfl) (leB rfl) (by kernel_rfl) trivial
                · refine w_skip ?_
                  refine hK_38455 _ ⟨[(0, sl 5 cs_Unit a1), (1, sl 3 cs_Amount a2), (2, I a3), (6, .ptr 0 0), (12, .ptr 1 0), (13, I s_38355.2), (14, .ptr 2 0)], [(2, ⟨31, 0, (cs_Ratio x_38452.1)⟩), (0, ⟨33, 0, [I 0, I 0, I 0]⟩), (1, ⟨31, 0, (cs_Ratio s_38355.1)⟩)], 3⟩ (to_trim (by kernel_rfl) (leB rfl)) ?_
                  refine w_seq (fun K hK_38459 => w_reg0 ?_)
                  refine dd_run 0 2 rfl (by kernel_rfl) ?_
                  obtain ⟨x_38460, h_38461, h⟩ := bind_some' h
                  refine dd_one 2 (.call ⟨.value (.func 42), #[(.tmp 103), (.tmp 104)], #[31, 31]⟩) (some 105) (by kernel_rfl) (o_callP (g_estoppelref01_Add_ok h_38461) (by kernel_rfl) rfl) ?_
                  refine ops_fin' hK_38459 ⟨[(0, sl 5 cs_Unit a1), (1, sl 3 cs_Amount a2), (2, I a3), (6, .ptr 0 0), (12, .ptr 1 0), (13, I s_38355.2), (15, I x_38460.2)], [(2, ⟨31, 0, (cs_Ratio x_38452.1)⟩), (0, ⟨33, 0, [I 0, I 0, I 0]⟩), (1, ⟨31, 0, (cs_Ratio x_38460.1)⟩)], 3⟩ (by kernel_rfl) (leB rfl) ?_
                  refine w_reg ⟨[(0, sl 5 cs_Unit a1), (1, sl 3 cs_Amount a2), (2, I a3), (6, .ptr 0 0), (12, .ptr 1 0), (13, I s_38355.2), (15, I x_38460.2), (109, B (x_38460.2 != 0))], [(2, ⟨31, 0, (cs_Ratio x_38452.1)⟩), (0, ⟨33, 0, [I 0, I 0, I 0]⟩), (1, ⟨31, 0, (cs_Ratio x_38460.1)⟩)], 3⟩ (by kernel_rfl) (leB rfl) ?_
                  refine w_ite h (by kernel_rfl) (fun h_38462 h => ?_) (fun h_38462 h => ?_)
                  · refine w_reg ⟨[(6, .ptr 0 0), (7, I x_38460.2)], [(2, ⟨31, 0, (cs_Ratio x_38452.1)⟩), (0, ⟨33, 0, [I 0, I 0, I 0]⟩), (1, ⟨31, 0, (cs_Ratio x_38460.1)⟩)], 3⟩ (by kernel_rfl) (leB rfl) ?_
                    refine w_ret ?_
                    obtain rfl := ((h_38141 _ (h_38356 _ (Option.some.inj h).symm).symm).symm).symm
                    exact ret_leaf (.inl rfl) ⟨[(6, .ptr 0 0), (7, I x_38460.2)], [(0, ⟨33, 0, (cs_Amount (D.Amount.mk 0 (D.Ratio.mk 0 0)))⟩)], 1⟩ (to_ren [] (leB rfl) (by kernel_rfl) (by kernel_rfl) (renE_of (by kernel_rfl) (by kernel_rfl)) ⟨reRn (by kernel_rfl) (leB rfl) (by kernel_rfl), trivial⟩) [.agg (cs_Amount (D.Amount.mk 0 (D.Ratio.mk 0 0))), I x_38460.2] (by kernel_rfl) (by kernel_rfl) (leB rfl) (by kernel_rfl) trivial
                  · refine w_skip ?_
                    refine hK_38412 _ ⟨[(0, sl 5 cs_Unit a1), (1, sl 3 cs_Amount a2), (2, I a3), (6, .ptr 0 0), (12, .ptr 1 0), (13, I s_38355.2)], [(2, ⟨31, 0, (cs_Ratio x_38452.1)⟩), (0, ⟨33, 0, [I 0, I 0, I 0]⟩), (1, ⟨31, 0, (cs_Ratio x_38460.1)⟩)], 3⟩ (to_trim (by kernel_rfl) (leB rfl)) ?_
                    refine w_reg0 ?_
                    refine dd_run 0 3 rfl (by kernel_rfl) ?_
                    refine dd_nil 3 rfl ?_
                    exact hK_38357 _ _ (Option.some.inj h).symm (to_ren [] (leB rfl) (by kernel_rfl) (by kernel_rfl) (renE_of (by kernel_rfl) (by kernel_rfl)) ⟨reRn (by kernel_rfl) (leB rfl) (by kernel_rfl), ⟨reRn (by kernel_rfl) (leB rfl) (by kernel_rfl), trivial⟩⟩)
              · refine w_exit ?_
                exact hK_38142 _ _ (h_38356 _ (Option.some.inj h).symm).symm (to_ren [] (leB rfl) (by kernel_rfl) (by kernel_rfl) (renE_of (by kernel_rfl) (by kernel_rfl)) ⟨reRn (by kernel_rfl) (leB rfl) (by kernel_rfl), ⟨reRn (by kernel_rfl) (leB rfl) (by kernel_rfl), trivial⟩⟩)
          · refine w_reg ⟨[(6, .ptr 0 0), (7, I 0)], [(0, ⟨33, 0, ([I a3] ++ (cs_Ratio e_38140))⟩), (1, ⟨31, 0, (cs_Ratio e_38140)⟩)], 2⟩ (by kernel_rfl) (leB rfl) ?_
            refine w_ret ?_
            obtain rfl := ((Option.some.inj h).symm).symm
            exact ret_leaf (.inl rfl) ⟨[(6, .ptr 0 0), (7, I 0)], [(0, ⟨33, 0, (cs_Amount (D.Amount.mk a3 e_38140))⟩)], 1⟩ (to_ren [] (leB rfl) (by kernel_rfl) (by kernel_rfl) (renE_of (by kernel_rfl) (by kernel_rfl)) ⟨reRn (by kernel_rfl) (leB rfl) (by kernel_rfl), trivial⟩) [.agg (cs_Amount (D.Amount.mk a3 e_38140)), I 0] (by kernel_rfl) (by kernel_rfl) (leB rfl) (by kernel_rfl) trivial
/-- estoppel/estoppellaw04.table -/
def g_estoppellaw04_table : Option (List D.Unit) :=
  some [(D.Unit.mk (ByteArray.mk #[116]) 1 0 (D.Ratio.mk 1 1)), (D.Unit.mk (ByteArray.mk #[107, 103]) 1 0 (D.Ratio.mk 1 1000)), (D.Unit.mk (ByteArray.mk #[69, 85, 82]) 2 2 (D.Ratio.mk 1 1)), (D.Unit.mk (ByteArray.mk #[99, 116]) 2 2 (D.Ratio.mk 1 100))]
set_option maxHeartbeats 4000000 in
theorem g_estoppellaw04_table_ok {res : List D.Unit} (h : g_estoppellaw04_table = some res) : SpecK Tryd.prog [] 26 [] [] 0 (sl 5 cs_Unit res) [] 0 := by
  refine ⟨spec_of_wp Tryd.func26 (by kernel_rfl) rfl Tryd.ntmps26 (by rw [Tryd.results26]) (leB rfl) ?_, by kernel_rfl, trivial, by kernel_rfl, trivial, by kernel_rfl⟩
  unfold g_estoppellaw04_table at h
  refine w_reg ⟨[], [], 0⟩ (by kernel_rfl) (leB rfl) ?_
  refine w_reg ⟨[(1, .ptr 0 0)], [(0, ⟨31, 0, [I 1, I 1]⟩)], 1⟩ (by kernel_rfl) (leB rfl) ?_
  refine w_reg ⟨[(0, sl 5 cs_Unit [(D.Unit.mk (ByteArray.mk #[116]) 1 0 (D.Ratio.mk 1 1)), (D.Unit.mk (ByteArray.mk #[107, 103]) 1 0 (D.Ratio.mk 1 1000)), (D.Unit.mk (ByteArray.mk #[69, 85, 82]) 2 2 (D.Ratio.mk 1 1)), (D.Unit.mk (ByteArray.mk #[99, 116]) 2 2 (D.Ratio.mk 1 100))])], [(0, ⟨31, 0, [I 1, I 1]⟩)], 1⟩ (by kernel_rfl) (leB rfl) ?_
  refine w_ret ?_
  obtain rfl := ((Option.some.inj h).symm).symm
  exact ret_leaf (.inl rfl) ⟨[(0, sl 5 cs_Unit [(D.Unit.mk (ByteArray.mk #[116]) 1 0 (D.Ratio.mk 1 1)), (D.Unit.mk (ByteArray.mk #[107, 103]) 1 0 (D.Ratio.mk 1 1000)), (D.Unit.mk (ByteArray.mk #[69, 85, 82]) 2 2 (D.Ratio.mk 1 1)), (D.Unit.mk (ByteArray.mk #[99, 116]) 2 2 (D.Ratio.mk 1 100))])], [], 0⟩ (to_ren [] (leB rfl) (by kernel_rfl) (by kernel_rfl) (renE_of (by kernel_rfl) (by kernel_rfl)) trivial) [sl 5 cs_Unit [(D.Unit.mk (ByteArray.mk #[116]) 1 0 (D.Ratio.mk 1 1)), (D.Unit.mk (ByteArray.mk #[107, 103]) 1 0 (D.Ratio.mk 1 1000)), (D.Unit.mk (ByteArray.mk #[69, 85, 82]) 2 2 (D.Ratio.mk 1 1)), (D.Unit.mk (ByteArray.mk #[99, 116]) 2 2 (D.Ratio.mk 1 100))]] (by kernel_rfl) (by kernel_rfl) (leB rfl) (by kernel_rfl) trivial
/-- estoppel/estoppellaw04.small -/
def g_estoppellaw04_small (a1 : List D.Unit) (a2 : List D.Amount) : Option (Bool) :=
  bindF (ρ := Unit) (
  loopO (σ := Int) (fun s_39322 =>
  if (decide (s_39322 < (a1.length : Int))) = true then
  bindF (ρ := Bool) (
  if (decide (s_39322 ≥ 25)) = true then
  some (.inl true)
  else
  (getI a1 s_39322).bind fun x_39363 =>
  some (.inl (decide ((x_39363.Name.size : Int) > 100)))) (fun (e_39355 : Bool) =>
  if e_39355 = true then
  some (.inr (.inr false))
  else
  some (.inl (IntKind.i64.wrap (s_39322 + 1))))
  else
  some (.inr (.inl ()))) 0) (fun (e_39235 : Unit) =>
  some (decide ((a2.length : Int) ≤ 60)))
set_option maxHeartbeats 4000000 in
theorem g_estoppellaw04_small_ok {a1 : List D.Unit} {a2 : List D.Amount} {res : Bool} (h : g_estoppellaw04_small a1 a2 = some res) : SpecK Tryd.prog [] 12 [sl 5 cs_Unit a1, sl 3 cs_Amount a2] [] 0 (B res) [] 0 := by
  refine ⟨spec_of_wp Tryd.func12 (by kernel_rfl) rfl Tryd.ntmps12 (by rw [Tryd.results12]) (leB rfl) ?_, by kernel_rfl, trivial, by kernel_rfl, trivial, by kernel_rfl⟩
  unfold g_estoppellaw04_small at h
  refine w_reg ⟨[(0, sl 5 cs_Unit a1), (1, sl 3 cs_Amount a2)], [], 0⟩ (by kernel_rfl) (leB rfl) ?_
  refine w_assoc ?_
  refine w_reg ⟨[(0, sl 5 cs_Unit a1), (1, sl 3 cs_Amount a2), (5, I 0)], [], 0⟩ (by kernel_rfl) (leB rfl) ?_
  refine w_cut h (fun (e_39235 : Unit) => ⟨[(1, sl 3 cs_Amount a2)], [], 0⟩) (fun o h h_39236 K hK_39237 => ?_) (fun e_39235 h => ?_)
  · refine w_block ?_
    refine w_loopO h (fun (s_39322 : Int) => ⟨[(0, sl 5 cs_Unit a1), (1, sl 3 cs_Amount a2), (5, I s_39322)], [], 0⟩) (to_ren [] (leB rfl) (by kernel_rfl) (by kernel_rfl) (renE_of (by kernel_rfl) (by kernel_rfl)) trivial) (fun s_39322 o h h_39323 K hK_39324 => ?_)
    · refine w_assoc ?_
      refine w_seq (fun K hK_39325 => w_reg0 ?_)
      refine dd_run 0 2 rfl (by kernel_rfl) ?_
      refine dd_one 2 (.call ⟨.builtin .len, #[(.tmp 7)], #[22]⟩) (some 8) (by kernel_rfl) (o_pure (I (a1.length : Int)) (ev_len_sl (e := 42) (ty := 0) (k := 5) (c := cs_Unit) (by kernel_rfl) (by kernel_rfl)) rfl) ?_
      refine ops_fin' hK_39325 ⟨[(0, sl 5 cs_Unit a1), (1, sl 3 cs_Amount a2), (5, I s_39322), (9, B (decide (s_39322 < (a1.length : Int))))], [], 0⟩ (by kernel_rfl) (leB rfl) ?_
      refine w_seq (fun K hK_39327 => ?_)
      refine w_ite h (by kernel_rfl) (fun h_39328 h => ?_) (fun h_39328 h => ?_)
      · refine w_skip ?_
        refine hK_39327 _ ⟨[(0, sl 5 cs_Unit a1), (1, sl 3 cs_Amount a2), (5, I s_39322)], [], 0⟩ (to_trim (by kernel_rfl) (leB rfl)) ?_
        refine w_seq (fun K hK_39347 => ?_)
        refine w_block ?_
        refine w_cut h (fun (e_39355 : Bool) => ⟨[(0, sl 5 cs_Unit a1), (1, sl 3 cs_Amount a2), (5, I s_39322), (22, B e_39355)], [], 0⟩) (fun o h h_39356 K hK_39357 => ?_) (fun e_39355 h => ?_)
        · refine w_reg0 ?_
          refine dd_run 0 3 rfl (by kernel_rfl) ?_
          refine ite_both h (fun h_39358 h => ?_) (fun h_39358 h => ?_)
          · refine dd_skip 3 10 2 false rfl (b := (decide (s_39322 ≥ 25))) (by kernel_rfl) h_39358 (by kernel_rfl) ?_
            refine dd_one 10 (.pick (.tmp 14) (.const (.bool true)) (.tmp 21)) (some 22) (by kernel_rfl) (o_pure (B true) (ev_pickT h_39358 (by kernel_rfl) (by kernel_rfl)) rfl) ?_
            refine dd_nil 11 rfl ?_
            exact hK_39357 _ _ (Option.some.inj h).symm (to_ren [] (leB rfl) (by kernel_rfl) (by kernel_rfl) (renE_of (by kernel_rfl) (by kernel_rfl)) trivial)
          · refine dd_runG 3 5 2 false rfl (b := (decide (s_39322 ≥ 25))) (by kernel_rfl) h_39358 (by kernel_rfl) ?_
            obtain ⟨x_39363, h_39364, h⟩ := bind_some' h
            refine dd_oneG 5 (.indexAddr 22 (.tmp 15) (.tmp 16)) (some 17) 2 false (b := (decide (s_39322 ≥ 25))) (by kernel_rfl) (by kernel_rfl) h_39358 (o_pure (.ip (cs_Unit x_39363)) (ev_idx_sl (e := 42) (k := 5) (c := cs_Unit) (ik := .i64) h_39364 (by kernel_rfl) (by kernel_rfl) (by kernel_rfl) (by kernel_rfl)) rfl) ?_
            refine dd_runG 6 10 2 false rfl (b := (decide (s_39322 ≥ 25))) (by kernel_rfl) h_39358 (by kernel_rfl) ?_
            refine dd_one 10 (.pick (.tmp 14) (.const (.bool true)) (.tmp 21)) (some 22) (by kernel_rfl) (o_pure (B (decide ((x_39363.Name.size : Int) > 100))) (ev_pickF h_39358 (by kernel_rfl) (by kernel_rfl)) rfl) ?_
            refine dd_nil 11 rfl ?_
            exact hK_39357 _ _ (Option.some.inj h).symm (to_ren [] (leB rfl) (by kernel_rfl) (by kernel_rfl) (renE_of (by kernel_rfl) (by kernel_rfl)) trivial)
        · refine w_ite h (by kernel_rfl) (fun h_39365 h => ?_) (fun h_39365 h => ?_)
          · refine w_reg ⟨[(4, B false)], [], 0⟩ (by kernel_rfl) (leB rfl) ?_
            refine w_ret ?_
            obtain rfl := ((h_39236 _ (h_39323 _ (Option.some.inj h).symm).symm).symm).symm
            exact ret_leaf (.inl rfl) ⟨[(4, B false)], [], 0⟩ (to_ren [] (leB rfl) (by kernel_rfl) (by kernel_rfl) (renE_of (by kernel_rfl) (by kernel_rfl)) trivial) [B false] (by kernel_rfl) (by kernel_rfl) (leB rfl) (by kernel_rfl) trivial
          · refine w_skip ?_
            refine hK_39347 _ ⟨[(0, sl 5 cs_Unit a1), (1, sl 3 cs_Amount a2), (5, I s_39322)], [], 0⟩ (to_trim (by kernel_rfl) (leB rfl)) ?_
            refine w_reg0 ?_
            refine dd_run 0 3 rfl (by kernel_rfl) ?_
            refine dd_nil 3 rfl ?_
            exact hK_39324 _ _ (Option.some.inj h).symm (to_ren [] (leB rfl) (by kernel_rfl) (by kernel_rfl) (renE_of (by kernel_rfl) (by kernel_rfl)) trivial)
      · refine w_exit ?_
        exact hK_39237 _ _ (h_39323 _ (Option.some.inj h).symm).symm (to_ren [] (leB rfl) (by kernel_rfl) (by kernel_rfl) (renE_of (by kernel_rfl) (by kernel_rfl)) trivial)
  · refine w_seq (fun K hK_39366 => w_reg0 ?_)
    refine dd_run 0 1 rfl (by kernel_rfl) ?_
    refine dd_one 1 (.call ⟨.builtin .len, #[(.tmp 23)], #[23]⟩) (some 24) (by kernel_rfl) (o_pure (I (a2.length : Int)) (ev_len_sl (e := 33) (ty := 0) (k := 3) (c := cs_Amount) (by kernel_rfl) (by kernel_rfl)) rfl) ?_
    refine ops_fin' hK_39366 ⟨[(4, B (decide ((a2.length : Int) ≤ 60)))], [], 0⟩ (by kernel_rfl) (leB rfl) ?_
    refine w_ret ?_
    obtain rfl := ((Option.some.inj h).symm).symm
    exact ret_leaf (.inl rfl) ⟨[(4, B (decide ((a2.length : Int) ≤ 60)))], [], 0⟩ (to_ren [] (leB rfl) (by kernel_rfl) (by kernel_rfl) (renE_of (by kernel_rfl) (by kernel_rfl)) trivial) [B (decide ((a2.length : Int) ≤ 60))] (by kernel_rfl) (by kernel_rfl) (leB rfl) (by kernel_rfl) trivial
/-- estoppel/estoppellaw04.table -/
def g_estoppellaw04_table_own : Option (Unit) :=
  some ()
set_option maxHeartbeats 4000000 in
theorem g_estoppellaw04_table_own_ok {res : Unit} (h : g_estoppellaw04_table_own = some res) : SpecK Tryd.prog [0] 26 [] [] 0 (.own 0 [(D.Unit.mk (ByteArray.mk #[116]) 1 0 (D.Ratio.mk 1 1)), (D.Unit.mk (ByteArray.mk #[107, 103]) 1 0 (D.Ratio.mk 1 1000)), (D.Unit.mk (ByteArray.mk #[69, 85, 82]) 2 2 (D.Ratio.mk 1 1)), (D.Unit.mk (ByteArray.mk #[99, 116]) 2 2 (D.Ratio.mk 1 100))].length) [(0, ⟨42, 5, flat cs_Unit [(D.Unit.mk (ByteArray.mk #[116]) 1 0 (D.Ratio.mk 1 1)), (D.Unit.mk (ByteArray.mk #[107, 103]) 1 0 (D.Ratio.mk 1 1000)), (D.Unit.mk (ByteArray.mk #[69, 85, 82]) 2 2 (D.Ratio.mk 1 1)), (D.Unit.mk (ByteArray.mk #[99, 116]) 2 2 (D.Ratio.mk 1 100))]⟩)] 1 := by
  refine ⟨spec_of_wp Tryd.func26 (by kernel_rfl) rfl Tryd.ntmps26 (by rw [Tryd.results26]) (leB rfl) ?_, by kernel_rfl, trivial, by kernel_rfl, ⟨⟨leB rfl, flat_all (AV.keyed 0 4) (fun _ => rfl) _⟩, trivial⟩, by kernel_rfl⟩
  unfold g_estoppellaw04_table_own at h
  refine w_reg ⟨[], [], 0⟩ (by kernel_rfl) (leB rfl) ?_
  refine w_reg ⟨[(1, .ptr 0 0)], [(0, ⟨31, 0, [I 1, I 1]⟩)], 1⟩ (by kernel_rfl) (leB rfl) ?_
  refine w_seq (fun K hK_39368 => w_reg0 ?_)
  refine dd_run 0 8 rfl (by kernel_rfl) ?_
  refine dd_one 8 (.buildSlice 22 4 #[(0, (.tmp 4)), (1, (.tmp 6)), (2, (.tmp 8)), (3, (.tmp 10))]) (some 11) (by kernel_rfl) (o_own (.own 1 [(D.Unit.mk (ByteArray.mk #[116]) 1 0 (D.Ratio.mk 1 1)), (D.Unit.mk (ByteArray.mk #[107, 103]) 1 0 (D.Ratio.mk 1 1000)), (D.Unit.mk (ByteArray.mk #[69, 85, 82]) 2 2 (D.Ratio.mk 1 1)), (D.Unit.mk (ByteArray.mk #[99, 116]) 2 2 (D.Ratio.mk 1 100))].length) [(1, ⟨42, 5, flat cs_Unit [(D.Unit.mk (ByteArray.mk #[116]) 1 0 (D.Ratio.mk 1 1)), (D.Unit.mk (ByteArray.mk #[107, 103]) 1 0 (D.Ratio.mk 1 1000)), (D.Unit.mk (ByteArray.mk #[69, 85, 82]) 2 2 (D.Ratio.mk 1 1)), (D.Unit.mk (ByteArray.mk #[99, 116]) 2 2 (D.Ratio.mk 1 100))]⟩), (0, ⟨31, 0, [I 1, I 1]⟩)] 2 (by kernel_rfl) rfl) ?_
  refine ops_fin' hK_39368 ⟨[(0, .own 1 [(D.Unit.mk (ByteArray.mk #[116]) 1 0 (D.Ratio.mk 1 1)), (D.Unit.mk (ByteArray.mk #[107, 103]) 1 0 (D.Ratio.mk 1 1000)), (D.Unit.mk (ByteArray.mk #[69, 85, 82]) 2 2 (D.Ratio.mk 1 1)), (D.Unit.mk (ByteArray.mk #[99, 116]) 2 2 (D.Ratio.mk 1 100))].length)], [(1, ⟨42, 5, flat cs_Unit [(D.Unit.mk (ByteArray.mk #[116]) 1 0 (D.Ratio.mk 1 1)), (D.Unit.mk (ByteArray.mk #[107, 103]) 1 0 (D.Ratio.mk 1 1000)), (D.Unit.mk (ByteArray.mk #[69, 85, 82]) 2 2 (D.Ratio.mk 1 1)), (D.Unit.mk (ByteArray.mk #[99, 116]) 2 2 (D.Ratio.mk 1 100))]⟩), (0, ⟨31, 0, [I 1, I 1]⟩)], 2⟩ (by kernel_rfl) (leB rfl) ?_
  refine w_ret ?_
  obtain rfl := ((Option.some.inj h).symm).symm
  exact ret_leaf (.inl rfl) ⟨[(0, .own 0 [(D.Unit.mk (ByteArray.mk #[116]) 1 0 (D.Ratio.mk 1 1)), (D.Unit.mk (ByteArray.mk #[107, 103]) 1 0 (D.Ratio.mk 1 1000)), (D.Unit.mk (ByteArray.mk #[69, 85, 82]) 2 2 (D.Ratio.mk 1 1)), (D.Unit.mk (ByteArray.mk #[99, 116]) 2 2 (D.Ratio.mk 1 100))].length)], [(0, ⟨42, 5, flat cs_Unit [(D.Unit.mk (ByteArray.mk #[116]) 1 0 (D.Ratio.mk 1 1)), (D.Unit.mk (ByteArray.mk #[107, 103]) 1 0 (D.Ratio.mk 1 1000)), (D.Unit.mk (ByteArray.mk #[69, 85, 82]) 2 2 (D.Ratio.mk 1 1)), (D.Unit.mk (ByteArray.mk #[99, 116]) 2 2 (D.Ratio.mk 1 100))]⟩)], 1⟩ (to_ren [(0, 1)] (leB rfl) (by kernel_rfl) (by kernel_rfl) (renE_of (by kernel_rfl) (by kernel_rfl)) ⟨rePl (by kernel_rfl) (leB rfl) (flat_all _ (fun _ => rfl) _), trivial⟩) [.own 0 [(D.Unit.mk (ByteArray.mk #[116]) 1 0 (D.Ratio.mk 1 1)), (D.Unit.mk (ByteArray.mk #[107, 103]) 1 0 (D.Ratio.mk 1 1000)), (D.Unit.mk (ByteArray.mk #[69, 85, 82]) 2 2 (D.Ratio.mk 1 1)), (D.Unit.mk (ByteArray.mk #[99, 116]) 2 2 (D.Ratio.mk 1 100))].length] (by kernel_rfl) (by kernel_rfl) (leB rfl) (by kernel_rfl) ⟨⟨by kernel_rfl, leB rfl, (flat_all _ (fun _ => rfl) _)⟩, trivial⟩
end Go.Proofs.YtdfokoapenhalaaDoor.Ab
