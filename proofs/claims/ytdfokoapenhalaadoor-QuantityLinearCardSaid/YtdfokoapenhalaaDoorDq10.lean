/- Functions of the program as plain functions (printed by wip/dec.py). -/
import Derived.Test.YtdfokoapenhalaaDoorDq7
import Derived.Test.YtdfokoapenhalaaDoorDq9
namespace Go.Proofs.YtdfokoapenhalaaDoor.Ab
open Go Go.RowKit Go.Shelf
/-- estoppel/estoppelref04.times -/
def g_estoppelref04_times (a1 : List Int) (a2 : Int) : Option (Int × Bool) :=
  (getI a1 0).bind fun x_28294 =>
  (lenO a1 3).bind fun _ =>
  bindF (ρ := Int) (
  loopO (σ := Int × Int) (fun s_28665 =>
  if (decide (s_28665.2 < 3)) = true then
  (g_estoppelref04_size s_28665.1).bind fun x_28719 =>
  (getI a1 s_28665.2).bind fun x_28724 =>
  (lenO a1 3).bind fun _ =>
  (quoO .i64 a2 x_28724).bind fun x_28729 =>
  if (decide (x_28719 > x_28729)) = true then
  some (.inr (.inr (0, false)))
  else
  (getI a1 s_28665.2).bind fun x_28737 =>
  (lenO a1 3).bind fun _ =>
  some (.inl ((IntKind.i64.wrap (s_28665.1 * x_28737)), (IntKind.i64.wrap (s_28665.2 + 1))))
  else
  some (.inr (.inl s_28665.1))) (x_28294, 1)) (fun (e_28516 : Int) =>
  some (e_28516, true))
set_option maxHeartbeats 4000000 in
theorem g_estoppelref04_times_ok {a1 : List Int} {a2 : Int} {res : Int × Bool} (h : g_estoppelref04_times a1 a2 = some res) : SpecK Tryd.prog [] 54 [.agg (flat cI a1), I a2] [] 0 (.tup [I res.1, B res.2]) [] 0 := by
  refine ⟨spec_of_wp Tryd.func54 (by kernel_rfl) rfl Tryd.ntmps54 (by rw [Tryd.results54]) (leB rfl) ?_, (all_c (flat_all (c := cI) (AV.keyed 0 3) (fun _ => rfl) _) (all_c (by kernel_rfl) rfl)), trivial, by kernel_rfl, trivial, by kernel_rfl⟩
  unfold g_estoppelref04_times at h
  refine w_seq (fun K hK_28280 => w_reg0 ?_)
  refine dd_one 0 (.box 76 (.tmp 0)) (some 2) (by kernel_rfl) (o_pure (.ip (flat cI a1)) (ev_box (v := .agg (flat cI a1)) (by kernel_rfl) (flat_all (c := cI) (AV.keyed 0 4) (fun _ => rfl) _)) rfl) ?_
  refine ops_fin' hK_28280 ⟨[(1, I a2), (2, .ip (flat cI a1))], [], 0⟩ (by kernel_rfl) (leB rfl) ?_
  refine w_seq (fun K hK_28290 => w_reg0 ?_)
  obtain ⟨x_28294, h_28295, h⟩ := bind_some' h
  obtain ⟨_, h_28296, h⟩ := bind_some' h; replace h_28296 := lenO_some h_28296
  refine dd_one 0 (.indexAddr 76 (.tmp 2) (.const (.int .i64 (0)))) (some 8) (by kernel_rfl) (o_pure (.ip ((flat cI a1).drop ((0 : Int).toNat * 1))) (ev_idx_ip (N := 3) (e := 3) (k := 1) (c := cI) (l := a1) (ik := .i64) h_28295 h_28296 (by kernel_rfl) (by kernel_rfl) (by kernel_rfl) (by kernel_rfl)) rfl) ?_
  refine dd_one 1 (.load 3 (.tmp 8)) (some 9) (by kernel_rfl) (o_pure (I x_28294) (ev_load_ipx (k := 1) (c := cI) (l := a1) (j := 0) (fun _ => rfl) h_28295 (by kernel_rfl) (by kernel_rfl)) rfl) ?_
  refine ops_fin' hK_28290 ⟨[(1, I a2), (2, .ip (flat cI a1)), (6, I x_28294)], [], 0⟩ (by kernel_rfl) (leB rfl) ?_
  refine w_assoc ?_
  refine w_reg ⟨[(1, I a2), (2, .ip (flat cI a1)), (6, I x_28294), (7, I 1)], [], 0⟩ (by kernel_rfl) (leB rfl) ?_
  refine w_cut h (fun (e_28516 : Int) => ⟨[(6, I e_28516)], [], 0⟩) (fun o h h_28517 K hK_28518 => ?_) (fun e_28516 h => ?_)
  · refine w_block ?_
    refine w_loopO h (fun (s_28665 : Int × Int) => ⟨[(1, I a2), (2, .ip (flat cI a1)), (6, I s_28665.1), (7, I s_28665.2)], [], 0⟩) (to_ren [] (leB rfl) (by kernel_rfl) (by kernel_rfl) (renE_of (by kernel_rfl) (by kernel_rfl)) trivial) (fun s_28665 o h h_28666 K hK_28667 => ?_)
    · refine w_assoc ?_
      refine w_reg ⟨[(1, I a2), (2, .ip (flat cI a1)), (6, I s_28665.1), (7, I s_28665.2), (11, B (decide (s_28665.2 < 3)))], [], 0⟩ (by kernel_rfl) (leB rfl) ?_
      refine w_seq (fun K hK_28669 => ?_)
      refine w_ite h (by kernel_rfl) (fun h_28670 h => ?_) (fun h_28670 h => ?_)
      · refine w_skip ?_
        refine hK_28669 _ ⟨[(1, I a2), (2, .ip (flat cI a1)), (6, I s_28665.1), (7, I s_28665.2)], [], 0⟩ (to_trim (by kernel_rfl) (leB rfl)) ?_
        refine w_seq (fun K hK_28705 => ?_)
        refine w_block ?_
        refine w_assoc ?_
        refine w_seq (fun K hK_28718 => w_mix0 (by kernel_rfl) (by kernel_rfl) ?_)
        refine mm_run 0 1 rfl (by kernel_rfl) ?_
        obtain ⟨x_28719, h_28720, h⟩ := bind_some' h
        refine mm_one 1 (.call ⟨.value (.func 53), #[(.tmp 14)], #[3]⟩) (some 15) (by kernel_rfl) (by kernel_rfl) (oH_callP (g_estoppelref04_size_ok h_28720) (by kernel_rfl) rfl) ?_
        refine mm_run 2 4 rfl (by kernel_rfl) ?_
        obtain ⟨x_28724, h_28725, h⟩ := bind_some' h
        obtain ⟨_, h_28726, h⟩ := bind_some' h; replace h_28726 := lenO_some h_28726
        refine mm_one 4 (.indexAddr 76 (.tmp 2) (.tmp 17)) (some 18) (by kernel_rfl) (by kernel_rfl) (oH_pure (.ip ((flat cI a1).drop (s_28665.2.toNat * 1))) (ev_idx_ip (N := 3) (e := 3) (k := 1) (c := cI) (l := a1) (ik := .i64) h_28725 h_28726 (by kernel_rfl) (by kernel_rfl) (by kernel_rfl) (by kernel_rfl)) rfl) ?_
        refine mm_one 5 (.load 3 (.tmp 18)) (some 19) (by kernel_rfl) (by kernel_rfl) (oH_pure (I x_28724) (ev_load_ipx (k := 1) (c := cI) (l := a1) (j := s_28665.2) (fun _ => rfl) h_28725 (by kernel_rfl) (by kernel_rfl)) rfl) ?_
        obtain ⟨x_28729, h_28730, h⟩ := bind_some' h
        refine mm_one 6 (.binOp .quo 3 (.tmp 16) (.tmp 19) 3) (some 20) (by kernel_rfl) (by kernel_rfl) (oH_pure (I x_28729) (ev_quo h_28730 (by kernel_rfl) (by kernel_rfl)) rfl) ?_
        refine mix_fin' hK_28718 ⟨[(1, I a2), (2, .ip (flat cI a1)), (6, I s_28665.1), (7, I s_28665.2), (21, B (decide (x_28719 > x_28729)))], [], 0⟩ (by kernel_rfl) (leB rfl) ?_
        refine w_seq (fun K hK_28732 => ?_)
        refine w_ite h (by kernel_rfl) (fun h_28733 h => ?_) (fun h_28733 h => ?_)
        · refine w_reg ⟨[(4, I 0), (5, B false)], [], 0⟩ (by kernel_rfl) (leB rfl) ?_
          refine w_ret ?_
          obtain rfl := ((h_28517 _ (h_28666 _ (Option.some.inj h).symm).symm).symm).symm
          exact ret_leaf (.inl rfl) ⟨[(4, I 0), (5, B false)], [], 0⟩ (to_ren [] (leB rfl) (by kernel_rfl) (by kernel_rfl) (renE_of (by kernel_rfl) (by kernel_rfl)) trivial) [I 0, B false] (by kernel_rfl) (by kernel_rfl) (leB rfl) (by kernel_rfl) trivial
        · refine w_skip ?_
          refine hK_28732 _ ⟨[(1, I a2), (2, .ip (flat cI a1)), (6, I s_28665.1), (7, I s_28665.2)], [], 0⟩ (to_trim (by kernel_rfl) (leB rfl)) ?_
          refine w_reg0 ?_
          refine dd_run 0 2 rfl (by kernel_rfl) ?_
          obtain ⟨x_28737, h_28738, h⟩ := bind_some' h
          obtain ⟨_, h_28739, h⟩ := bind_some' h; replace h_28739 := lenO_some h_28739
          refine dd_one 2 (.indexAddr 76 (.tmp 2) (.tmp 23)) (some 24) (by kernel_rfl) (o_pure (.ip ((flat cI a1).drop (s_28665.2.toNat * 1))) (ev_idx_ip (N := 3) (e := 3) (k := 1) (c := cI) (l := a1) (ik := .i64) h_28738 h_28739 (by kernel_rfl) (by kernel_rfl) (by kernel_rfl) (by kernel_rfl)) rfl) ?_
          refine dd_one 3 (.load 3 (.tmp 24)) (some 25) (by kernel_rfl) (o_pure (I x_28737) (ev_load_ipx (k := 1) (c := cI) (l := a1) (j := s_28665.2) (fun _ => rfl) h_28738 (by kernel_rfl) (by kernel_rfl)) rfl) ?_
          refine dd_run 4 6 rfl (by kernel_rfl) ?_
          refine dd_nil 6 rfl ?_
          refine hK_28705 _ ⟨[(1, I a2), (2, .ip (flat cI a1)), (6, I (IntKind.i64.wrap (s_28665.1 * x_28737))), (7, I s_28665.2)], [], 0⟩ (to_trim (by kernel_rfl) (leB rfl)) ?_
          refine w_reg0 ?_
          refine dd_run 0 3 rfl (by kernel_rfl) ?_
          refine dd_nil 3 rfl ?_
          exact hK_28667 _ _ (Option.some.inj h).symm (to_ren [] (leB rfl) (by kernel_rfl) (by kernel_rfl) (renE_of (by kernel_rfl) (by kernel_rfl)) trivial)
      · refine w_exit ?_
        exact hK_28518 _ _ (h_28666 _ (Option.some.inj h).symm).symm (to_ren [] (leB rfl) (by kernel_rfl) (by kernel_rfl) (renE_of (by kernel_rfl) (by kernel_rfl)) trivial)
  · refine w_reg ⟨[(4, I e_28516), (5, B true)], [], 0⟩ (by kernel_rfl) (leB rfl) ?_
    refine w_ret ?_
    obtain rfl := ((Option.some.inj h).symm).symm
    exact ret_leaf (.inl rfl) ⟨[(4, I e_28516), (5, B true)], [], 0⟩ (to_ren [] (leB rfl) (by kernel_rfl) (by kernel_rfl) (renE_of (by kernel_rfl) (by kernel_rfl)) trivial) [I e_28516, B true] (by kernel_rfl) (by kernel_rfl) (leB rfl) (by kernel_rfl) trivial
/-- estoppel/estoppelref01.of -/
def g_estoppelref01_of (a1 : Bool) (a2 : Int) (a3 : Int) : Option (D.Ratio × Int) :=
  if (a3 == 0) = true then
  some ((D.Ratio.mk 0 0), 1)
  else
  (g_estoppelref01_Gcd a2 a3).bind fun x_28840 =>
  bindF (ρ := Bool) (
  (quoO .u64 a2 x_28840).bind fun x_28860 =>
  if (decide (x_28860 > 1000000000000)) = true then
  some (.inl true)
  else
  (quoO .u64 a3 x_28840).bind fun x_28867 =>
  some (.inl (decide (x_28867 > 1000000)))) (fun (e_28855 : Bool) =>
  if e_28855 = true then
  some ((D.Ratio.mk 0 0), 2)
  else
  (quoO .u64 a2 x_28840).bind fun x_28881 =>
  bindF (ρ := Int) (
  if a1 = true then
  some (.inl (IntKind.i64.wrap (0 - (IntKind.i64.wrap x_28881))))
  else
  some (.inl (IntKind.i64.wrap x_28881))) (fun (e_28884 : Int) =>
  (quoO .u64 a3 x_28840).bind fun x_28897 =>
  some ((D.Ratio.mk e_28884 (IntKind.i64.wrap x_28897)), 0)))
set_option maxHeartbeats 4000000 in
theorem g_estoppelref01_of_ok {a1 : Bool} {a2 : Int} {a3 : Int} {res : D.Ratio × Int} (h : g_estoppelref01_of a1 a2 a3 = some res) : SpecK Tryd.prog [] 59 [B a1, .s (.int .u64 a2), .s (.int .u64 a3)] [] 0 (.tup [.agg (cs_Ratio res.1), I res.2]) [] 0 := by
  refine ⟨spec_of_wp Tryd.func59 (by kernel_rfl) rfl Tryd.ntmps59 (by rw [Tryd.results59]) (leB rfl) ?_, by kernel_rfl, trivial, by kernel_rfl, trivial, by kernel_rfl⟩
  unfold g_estoppelref01_of at h
  refine w_reg ⟨[(0, B a1), (1, .s (.int .u64 a2)), (2, .s (.int .u64 a3)), (6, .ptr 0 0)], [(0, ⟨31, 0, [I 0, I 0]⟩)], 1⟩ (by kernel_rfl) (leB rfl) ?_
  refine w_assoc ?_
  refine w_reg ⟨[(0, B a1), (1, .s (.int .u64 a2)), (2, .s (.int .u64 a3)), (6, .ptr 0 0), (11, B (a3 == 0))], [(0, ⟨31, 0, [I 0, I 0]⟩)], 1⟩ (by kernel_rfl) (leB rfl) ?_
  refine w_seq (fun K hK_28835 => ?_)
  refine w_ite h (by kernel_rfl) (fun h_28836 h => ?_) (fun h_28836 h => ?_)
  · refine w_reg ⟨[(6, .ptr 0 0), (7, I 1)], [(0, ⟨31, 0, [I 0, I 0]⟩)], 1⟩ (by kernel_rfl) (leB rfl) ?_
    refine w_ret ?_
    obtain rfl := ((Option.some.inj h).symm).symm
    exact ret_leaf (.inl rfl) ⟨[(6, .ptr 0 0), (7, I 1)], [(0, ⟨31, 0, (cs_Ratio (D.Ratio.mk 0 0))⟩)], 1⟩ (to_ren [] (leB rfl) (by kernel_rfl) (by kernel_rfl) (renE_of (by kernel_rfl) (by kernel_rfl)) ⟨reRn (by kernel_rfl) (leB rfl) (by kernel_rfl), trivial⟩) [.agg (cs_Ratio (D.Ratio.mk 0 0)), I 1] (by kernel_rfl) (by kernel_rfl) (leB rfl) (by kernel_rfl) trivial
  · refine w_skip ?_
    refine hK_28835 _ ⟨[(0, B a1), (1, .s (.int .u64 a2)), (2, .s (.int .u64 a3)), (6, .ptr 0 0)], [(0, ⟨31, 0, [I 0, I 0]⟩)], 1⟩ (to_trim (by kernel_rfl) (leB rfl)) ?_
    refine w_seq (fun K hK_28839 => w_reg0 ?_)
    refine dd_run 0 2 rfl (by kernel_rfl) ?_
    obtain ⟨x_28840, h_28841, h⟩ := bind_some' h
    refine dd_one 2 (.call ⟨.value (.func 50), #[(.tmp 13), (.tmp 14)], #[69, 69]⟩) (some 15) (by kernel_rfl) (o_callP (g_estoppelref01_Gcd_ok h_28841) (by kernel_rfl) rfl) ?_
    refine ops_fin' hK_28839 ⟨[(0, B a1), (1, .s (.int .u64 a2)), (2, .s (.int .u64 a3)), (6, .ptr 0 0), (8, .s (.int .u64 x_28840))], [(0, ⟨31, 0, [I 0, I 0]⟩)], 1⟩ (by kernel_rfl) (leB rfl) ?_
    refine w_assoc ?_
    refine w_cut h (fun (e_28855 : Bool) => ⟨[(0, B a1), (1, .s (.int .u64 a2)), (2, .s (.int .u64 a3)), (6, .ptr 0 0), (8, .s (.int .u64 x_28840)), (25, B e_28855)], [(0, ⟨31, 0, [I 0, I 0]⟩)], 1⟩) (fun o h h_28856 K hK_28857 => ?_) (fun e_28855 h => ?_)
    · refine w_reg0 ?_
      refine dd_run 0 2 rfl (by kernel_rfl) ?_
      obtain ⟨x_28860, h_28861, h⟩ := bind_some' h
      refine dd_one 2 (.binOp .quo 69 (.tmp 16) (.tmp 17) 69) (some 18) (by kernel_rfl) (o_pure (.s (.int .u64 x_28860)) (ev_quo h_28861 (by kernel_rfl) (by kernel_rfl)) rfl) ?_
      refine dd_run 3 5 rfl (by kernel_rfl) ?_
      refine ite_both h (fun h_28862 h => ?_) (fun h_28862 h => ?_)
      · refine dd_skip 5 9 4 false rfl (b := (decide (x_28860 > 1000000000000))) (by kernel_rfl) h_28862 (by kernel_rfl) ?_
        refine dd_one 9 (.pick (.tmp 20) (.const (.bool true)) (.tmp 24)) (some 25) (by kernel_rfl) (o_pure (B true) (ev_pickT h_28862 (by kernel_rfl) (by kernel_rfl)) rfl) ?_
        refine dd_nil 10 rfl ?_
        exact hK_28857 _ _ (Option.some.inj h).symm (to_ren [] (leB rfl) (by kernel_rfl) (by kernel_rfl) (renE_of (by kernel_rfl) (by kernel_rfl)) ⟨reRn (by kernel_rfl) (leB rfl) (by kernel_rfl), trivial⟩)
      · refine dd_runG 5 7 4 false rfl (b := (decide (x_28860 > 1000000000000))) (by kernel_rfl) h_28862 (by kernel_rfl) ?_
        obtain ⟨x_28867, h_28868, h⟩ := bind_some' h
        refine dd_oneG 7 (.binOp .quo 69 (.tmp 21) (.tmp 22) 69) (some 23) 4 false (b := (decide (x_28860 > 1000000000000))) (by kernel_rfl) (by kernel_rfl) h_28862 (o_pure (.s (.int .u64 x_28867)) (ev_quo h_28868 (by kernel_rfl) (by kernel_rfl)) rfl) ?_
        refine dd_runG 8 9 4 false rfl (b := (decide (x_28860 > 1000000000000))) (by kernel_rfl) h_28862 (by kernel_rfl) ?_
        refine dd_one 9 (.pick (.tmp 20) (.const (.bool true)) (.tmp 24)) (some 25) (by kernel_rfl) (o_pure (B (decide (x_28867 > 1000000))) (ev_pickF h_28862 (by kernel_rfl) (by kernel_rfl)) rfl) ?_
        refine dd_nil 10 rfl ?_
        exact hK_28857 _ _ (Option.some.inj h).symm (to_ren [] (leB rfl) (by kernel_rfl) (by kernel_rfl) (renE_of (by kernel_rfl) (by kernel_rfl)) ⟨reRn (by kernel_rfl) (leB rfl) (by kernel_rfl), trivial⟩)
    · refine w_seq (fun K hK_28870 => ?_)
      refine w_ite h (by kernel_rfl) (fun h_28871 h => ?_) (fun h_28871 h => ?_)
      · refine w_reg ⟨[(6, .ptr 0 0), (7, I 2)], [(0, ⟨31, 0, [I 0, I 0]⟩)], 1⟩ (by kernel_rfl) (leB rfl) ?_
        refine w_ret ?_
        obtain rfl := ((Option.some.inj h).symm).symm
        exact ret_leaf (.inl rfl) ⟨[(6, .ptr 0 0), (7, I 2)], [(0, ⟨31, 0, (cs_Ratio (D.Ratio.mk 0 0))⟩)], 1⟩ (to_ren [] (leB rfl) (by kernel_rfl) (by kernel_rfl) (renE_of (by kernel_rfl) (by kernel_rfl)) ⟨reRn (by kernel_rfl) (leB rfl) (by kernel_rfl), trivial⟩) [.agg (cs_Ratio (D.Ratio.mk 0 0)), I 2] (by kernel_rfl) (by kernel_rfl) (leB rfl) (by kernel_rfl) trivial
      · refine w_skip ?_
        refine hK_28870 _ ⟨[(0, B a1), (1, .s (.int .u64 a2)), (2, .s (.int .u64 a3)), (6, .ptr 0 0), (8, .s (.int .u64 x_28840))], [(0, ⟨31, 0, [I 0, I 0]⟩)], 1⟩ (to_trim (by kernel_rfl) (leB rfl)) ?_
        refine w_seq (fun K hK_28878 => w_reg0 ?_)
        refine dd_run 0 2 rfl (by kernel_rfl) ?_
        obtain ⟨x_28881, h_28882, h⟩ := bind_some' h
        refine dd_one 2 (.binOp .quo 69 (.tmp 27) (.tmp 28) 69) (some 29) (by kernel_rfl) (o_pure (.s (.int .u64 x_28881)) (ev_quo h_28882 (by kernel_rfl) (by kernel_rfl)) rfl) ?_
        refine ops_fin' hK_28878 ⟨[(0, B a1), (2, .s (.int .u64 a3)), (6, .ptr 0 0), (8, .s (.int .u64 x_28840)), (9, I (IntKind.i64.wrap x_28881))], [(0, ⟨31, 0, [I 0, I 0]⟩)], 1⟩ (by kernel_rfl) (leB rfl) ?_
        refine w_assoc ?_
        refine w_reg ⟨[(2, .s (.int .u64 a3)), (6, .ptr 0 0), (8, .s (.int .u64 x_28840)), (9, I (IntKind.i64.wrap x_28881)), (31, B a1)], [(0, ⟨31, 0, [I 0, I 0]⟩)], 1⟩ (by kernel_rfl) (leB rfl) ?_
        refine w_cut h (fun (e_28884 : Int) => ⟨[(2, .s (.int .u64 a3)), (6, .ptr 0 0), (8, .s (.int .u64 x_28840)), (9, I e_28884)], [(0, ⟨31, 0, [I 0, I 0]⟩)], 1⟩) (fun o h h_28885 K hK_28886 => ?_) (fun e_28884 h => ?_)
        · refine w_ite h (by kernel_rfl) (fun h_28887 h => ?_) (fun h_28887 h => ?_)
          · refine w_reg0 ?_
            refine dd_run 0 3 rfl (by kernel_rfl) ?_
            refine dd_nil 3 rfl ?_
            exact hK_28886 _ _ (Option.some.inj h).symm (to_ren [] (leB rfl) (by kernel_rfl) (by kernel_rfl) (renE_of (by kernel_rfl) (by kernel_rfl)) ⟨reRn (by kernel_rfl) (leB rfl) (by kernel_rfl), trivial⟩)
          · refine w_skip ?_
            exact hK_28886 _ _ (Option.some.inj h).symm (to_ren [] (leB rfl) (by kernel_rfl) (by kernel_rfl) (renE_of (by kernel_rfl) (by kernel_rfl)) ⟨reRn (by kernel_rfl) (leB rfl) (by kernel_rfl), trivial⟩)
        · refine w_seq (fun K hK_28894 => w_reg0 ?_)
          refine dd_run 0 3 rfl (by kernel_rfl) ?_
          obtain ⟨x_28897, h_28898, h⟩ := bind_some' h
          refine dd_one 3 (.binOp .quo 69 (.tmp 35) (.tmp 36) 69) (some 37) (by kernel_rfl) (o_pure (.s (.int .u64 x_28897)) (ev_quo h_28898 (by kernel_rfl) (by kernel_rfl)) rfl) ?_
          refine ops_fin' hK_28894 ⟨[(6, .ptr 0 0), (7, I 0)], [(0, ⟨31, 0, [I e_28884, I (IntKind.i64.wrap x_28897)]⟩)], 1⟩ (by kernel_rfl) (leB rfl) ?_
          refine w_ret ?_
          obtain rfl := ((Option.some.inj h).symm).symm
          exact ret_leaf (.inl rfl) ⟨[(6, .ptr 0 0), (7, I 0)], [(0, ⟨31, 0, (cs_Ratio (D.Ratio.mk e_28884 (IntKind.i64.wrap x_28897)))⟩)], 1⟩ (to_ren [] (leB rfl) (by kernel_rfl) (by kernel_rfl) (renE_of (by kernel_rfl) (by kernel_rfl)) ⟨reRn (by kernel_rfl) (leB rfl) (by kernel_rfl), trivial⟩) [.agg (cs_Ratio (D.Ratio.mk e_28884 (IntKind.i64.wrap x_28897))), I 0] (by kernel_rfl) (by kernel_rfl) (leB rfl) (by kernel_rfl) trivial
/-- estoppel/estoppelref01.Make -/
def g_estoppelref01_Make (a1 : Int) (a2 : Int) : Option (D.Ratio × Int) :=
  (g_estoppelref01_size a1).bind fun x_28915 =>
  (g_estoppelref01_size a2).bind fun x_28917 =>
  (g_estoppelref01_of (!((decide (a1 < 0)) == (decide (a2 < 0)))) x_28915 x_28917).bind fun x_28919 =>
  some (x_28919.1, x_28919.2)
set_option maxHeartbeats 4000000 in
theorem g_estoppelref01_Make_ok {a1 : Int} {a2 : Int} {res : D.Ratio × Int} (h : g_estoppelref01_Make a1 a2 = some res) : SpecK Tryd.prog [] 55 [I a1, I a2] [] 0 (.tup [.agg (cs_Ratio res.1), I res.2]) [] 0 := by
  refine ⟨spec_of_wp Tryd.func55 (by kernel_rfl) rfl Tryd.ntmps55 (by rw [Tryd.results55]) (leB rfl) ?_, by kernel_rfl, trivial, by kernel_rfl, trivial, by kernel_rfl⟩
  unfold g_estoppelref01_Make at h
  refine w_reg ⟨[(0, I a1), (1, I a2), (4, .ptr 0 0)], [(0, ⟨31, 0, [I 0, I 0]⟩)], 1⟩ (by kernel_rfl) (leB rfl) ?_
  refine w_seq (fun K hK_28914 => w_reg0 ?_)
  refine dd_run 0 6 rfl (by kernel_rfl) ?_
  obtain ⟨x_28915, h_28916, h⟩ := bind_some' h
  refine dd_one 6 (.call ⟨.value (.func 51), #[(.tmp 11)], #[3]⟩) (some 12) (by kernel_rfl) (o_callP (g_estoppelref01_size_ok h_28916) (by kernel_rfl) rfl) ?_
  refine dd_run 7 8 rfl (by kernel_rfl) ?_
  obtain ⟨x_28917, h_28918, h⟩ := bind_some' h
  refine dd_one 8 (.call ⟨.value (.func 51), #[(.tmp 13)], #[3]⟩) (some 14) (by kernel_rfl) (o_callP (g_estoppelref01_size_ok h_28918) (by kernel_rfl) rfl) ?_
  obtain ⟨x_28919, h_28920, h⟩ := bind_some' h
  refine dd_one 9 (.call ⟨.value (.func 59), #[(.tmp 10), (.tmp 12), (.tmp 14)], #[4, 69, 69]⟩) (some 15) (by kernel_rfl) (o_callP (g_estoppelref01_of_ok h_28920) (by kernel_rfl) rfl) ?_
  refine ops_fin' hK_28914 ⟨[(4, .ptr 0 0), (5, I x_28919.2)], [(0, ⟨31, 0, (cs_Ratio x_28919.1)⟩)], 1⟩ (by kernel_rfl) (leB rfl) ?_
  refine w_ret ?_
  obtain rfl := ((Option.some.inj h).symm).symm
  exact ret_leaf (.inl rfl) ⟨[(4, .ptr 0 0), (5, I x_28919.2)], [(0, ⟨31, 0, (cs_Ratio x_28919.1)⟩)], 1⟩ (to_ren [] (leB rfl) (by kernel_rfl) (by kernel_rfl) (renE_of (by kernel_rfl) (by kernel_rfl)) ⟨reRn (by kernel_rfl) (leB rfl) (by kernel_rfl), trivial⟩) [.agg (cs_Ratio x_28919.1), I x_28919.2] (by kernel_rfl) (by kernel_rfl) (leB rfl) (by kernel_rfl) trivial
/-- estoppel/estoppelref04.scaled -/
def g_estoppelref04_scaled (a1 : D.Ratio) (a2 : D.Ratio) (a3 : D.Ratio) : Option (D.Ratio × Int) :=
  (lenO (List.replicate 3 (0 : Int)) 3).bind fun _ =>
  (lenO [a1.Num, a2.Num, a3.Den] 3).bind fun _ =>
  (lenO (List.replicate 3 (0 : Int)) 3).bind fun _ =>
  (lenO [a1.Den, a2.Den, a3.Num] 3).bind fun _ =>
  bindF (ρ := List Int × List Int) (
  loopO (σ := List Int × List Int × Int) (fun s_34598 =>
  if (decide (s_34598.2.2 < 3)) = true then
  loopO (σ := List Int × List Int × Int) (fun s_35542 =>
  if (decide (s_35542.2.2 < 3)) = true then
  (getI s_35542.1 s_34598.2.2).bind fun x_35666 =>
  (lenO s_35542.1 3).bind fun _ =>
  (g_estoppelref04_size x_35666).bind fun x_35669 =>
  (getI s_35542.2.1 s_35542.2.2).bind fun x_35674 =>
  (lenO s_35542.2.1 3).bind fun _ =>
  (g_estoppelref01_Gcd (IntKind.u64.wrap x_35669) (IntKind.u64.wrap x_35674)).bind fun x_35677 =>
  (getI s_35542.1 s_34598.2.2).bind fun x_35702 =>
  (lenO s_35542.1 3).bind fun _ =>
  (quoO .i64 x_35702 (IntKind.i64.wrap x_35677)).bind fun x_35707 =>
  (getI s_35542.1 s_34598.2.2).bind fun x_35712 =>
  (lenO s_35542.1 3).bind fun _ =>
  (getI s_35542.2.1 s_35542.2.2).bind fun x_35718 =>
  (lenO s_35542.2.1 3).bind fun _ =>
  (quoO .i64 x_35718 (IntKind.i64.wrap x_35677)).bind fun x_35723 =>
  (getI s_35542.2.1 s_35542.2.2).bind fun x_35728 =>
  (lenO s_35542.2.1 3).bind fun _ =>
  some (.inl ((setI s_35542.1 s_34598.2.2 x_35707), (setI s_35542.2.1 s_35542.2.2 x_35723), (IntKind.i64.wrap (s_35542.2.2 + 1))))
  else
  some (.inr (.inl (s_35542.1, s_35542.2.1, (IntKind.i64.wrap (s_34598.2.2 + 1)))))) (s_34598.1, s_34598.2.1, 0)
  else
  some (.inr (.inl (s_34598.1, s_34598.2.1)))) ([a1.Num, a2.Num, a3.Den], [a1.Den, a2.Den, a3.Num], 0)) (fun (e_32337 : List Int × List Int) =>
  (lenO e_32337.1 3).bind fun _ =>
  (g_estoppelref04_times e_32337.1 1000000000000).bind fun x_35739 =>
  (lenO e_32337.2 3).bind fun _ =>
  (g_estoppelref04_times e_32337.2 1000000).bind fun x_35749 =>
  bindF (ρ := Bool) (
  if (!x_35739.2) = true then
  some (.inl true)
  else
  some (.inl (!x_35749.2))) (fun (e_35752 : Bool) =>
  if e_35752 = true then
  some ((D.Ratio.mk 0 0), 2)
  else
  (g_estoppelref01_Make x_35739.1 x_35749.1).bind fun x_35762 =>
  some (x_35762.1, x_35762.2)))
set_option maxHeartbeats 4000000 in
theorem g_estoppelref04_scaled_ok {a1 : D.Ratio} {a2 : D.Ratio} {a3 : D.Ratio} {res : D.Ratio × Int} (h : g_estoppelref04_scaled a1 a2 a3 = some res) : SpecK Tryd.prog [] 37 [.agg (cs_Ratio a1), .agg (cs_Ratio a2), .agg (cs_Ratio a3)] [] 0 (.tup [.agg (cs_Ratio res.1), I res.2]) [] 0 := by
  refine ⟨spec_of_wp Tryd.func37 (by kernel_rfl) rfl Tryd.ntmps37 (by rw [Tryd.results37]) (leB rfl) ?_, by kernel_rfl, trivial, by kernel_rfl, trivial, by kernel_rfl⟩
  unfold g_estoppelref04_scaled at h
  refine w_reg ⟨[(3, .ip (cs_Ratio a1)), (4, .ip (cs_Ratio a2)), (5, .ip (cs_Ratio a3)), (6, .ptr 0 0)], [(0, ⟨31, 0, [I 0, I 0]⟩)], 1⟩ (by kernel_rfl) (leB rfl) ?_
  refine w_seq (fun K hK_28932 => w_reg0 ?_)
  refine dd_run 0 8 rfl (by kernel_rfl) ?_
  obtain ⟨_, h_28935, h⟩ := bind_some' h; replace h_28935 := lenO_some h_28935
  obtain ⟨_, h_28936, h⟩ := bind_some' h; replace h_28936 := lenO_some h_28936
  refine dd_one 8 (.store 76 (.tmp 8) (.tmp 23)) none (by kernel_rfl) (o_heap (U) [(1, ⟨76, 0, (flat cI [a1.Num, a2.Num, a3.Den])⟩), (0, ⟨31, 0, [I 0, I 0]⟩)] 2 (by kernel_rfl) (hv_store_arr (k := 1) (s := 3) (c := cI) (l := (List.replicate 3 (0 : Int))) (m := [a1.Num, a2.Num, a3.Den]) (b := 1) (sz := 0) (ty := 76) (fun _ => rfl) (by kernel_rfl) (by kernel_rfl) (by kernel_rfl) (by kernel_rfl) (by rw [h_28935]) (by rw [h_28936]) (fun _ => rfl)) rfl) ?_
  refine ops_fin' hK_28932 ⟨[(3, .ip (cs_Ratio a1)), (4, .ip (cs_Ratio a2)), (5, .ip (cs_Ratio a3)), (6, .ptr 0 0), (8, .ptr 1 0)], [(1, ⟨76, 0, (flat cI [a1.Num, a2.Num, a3.Den])⟩), (0, ⟨31, 0, [I 0, I 0]⟩)], 2⟩ (by kernel_rfl) (leB rfl) ?_
  refine w_seq (fun K hK_28943 => w_reg0 ?_)
  refine dd_run 0 8 rfl (by kernel_rfl) ?_
  obtain ⟨_, h_28946, h⟩ := bind_some' h; replace h_28946 := lenO_some h_28946
  obtain ⟨_, h_28947, h⟩ := bind_some' h; replace h_28947 := lenO_some h_28947
  refine dd_one 8 (.store 76 (.tmp 9) (.tmp 30)) none (by kernel_rfl) (o_heap (U) [(2, ⟨76, 0, (flat cI [a1.Den, a2.Den, a3.Num])⟩), (1, ⟨76, 0, (flat cI [a1.Num, a2.Num, a3.Den])⟩), (0, ⟨31, 0, [I 0, I 0]⟩)] 3 (by kernel_rfl) (hv_store_arr (k := 1) (s := 3) (c := cI) (l := (List.replicate 3 (0 : Int))) (m := [a1.Den, a2.Den, a3.Num]) (b := 2) (sz := 0) (ty := 76) (fun _ => rfl) (by kernel_rfl) (by kernel_rfl) (by kernel_rfl) (by kernel_rfl) (by rw [h_28946]) (by rw [h_28947]) (fun _ => rfl)) rfl) ?_
  refine ops_fin' hK_28943 ⟨[(6, .ptr 0 0), (8, .ptr 1 0), (9, .ptr 2 0)], [(2, ⟨76, 0, (flat cI [a1.Den, a2.Den, a3.Num])⟩), (1, ⟨76, 0, (flat cI [a1.Num, a2.Num, a3.Den])⟩), (0, ⟨31, 0, [I 0, I 0]⟩)], 3⟩ (by kernel_rfl) (leB rfl) ?_
  refine w_assoc ?_
  refine w_reg ⟨[(6, .ptr 0 0), (8, .ptr 1 0), (9, .ptr 2 0), (10, I 0)], [(2, ⟨76, 0, (flat cI [a1.Den, a2.Den, a3.Num])⟩), (1, ⟨76, 0, (flat cI [a1.Num, a2.Num, a3.Den])⟩), (0, ⟨31, 0, [I 0, I 0]⟩)], 3⟩ (by kernel_rfl) (leB rfl) ?_
  refine w_cut h (fun (e_32337 : List Int × List Int) => ⟨[(6, .ptr 0 0), (8, .ptr 1 0), (9, .ptr 2 0)], [(0, ⟨31, 0, [I 0, I 0]⟩), (1, ⟨76, 0, (flat cI e_32337.1)⟩), (2, ⟨76, 0, (flat cI e_32337.2)⟩)], 3⟩) (fun o h h_32338 K hK_32339 => ?_) (fun e_32337 h => ?_)
  · refine w_block ?_
    refine w_loopO h (fun (s_34598 : List Int × List Int × Int) => ⟨[(6, .ptr 0 0), (8, .ptr 1 0), (9, .ptr 2 0), (10, I s_34598.2.2)], [(0, ⟨31, 0, [I 0, I 0]⟩), (1, ⟨76, 0, (flat cI s_34598.1)⟩), (2, ⟨76, 0, (flat cI s_34598.2.1)⟩)], 3⟩) (to_ren [] (leB rfl) (by kernel_rfl) (by kernel_rfl) (renE_of (by kernel_rfl) (by kernel_rfl)) ⟨reRn (by kernel_rfl) (leB rfl) (by kernel_rfl), ⟨rePl (by kernel_rfl) (leB rfl) (flat_all _ (fun _ => rfl) _), ⟨rePl (by kernel_rfl) (leB rfl) (flat_all _ (fun _ => rfl) _), trivial⟩⟩⟩) (fun s_34598 o h h_34599 K hK_34600 => ?_)
    · refine w_assoc ?_
      refine w_reg ⟨[(6, .ptr 0 0), (8, .ptr 1 0), (9, .ptr 2 0), (10, I s_34598.2.2), (32, B (decide (s_34598.2.2 < 3)))], [(0, ⟨31, 0, [I 0, I 0]⟩), (1, ⟨76, 0, (flat cI s_34598.1)⟩), (2, ⟨76, 0, (flat cI s_34598.2.1)⟩)], 3⟩ (by kernel_rfl) (leB rfl) ?_
      refine w_seq (fun K hK_34602 => ?_)
      refine w_ite h (by kernel_rfl) (fun h_34603 h => ?_) (fun h_34603 h => ?_)
      · refine w_skip ?_
        refine hK_34602 _ ⟨[(6, .ptr 0 0), (8, .ptr 1 0), (9, .ptr 2 0), (10, I s_34598.2.2)], [(0, ⟨31, 0, [I 0, I 0]⟩), (1, ⟨76, 0, (flat cI s_34598.1)⟩), (2, ⟨76, 0, (flat cI s_34598.2.1)⟩)], 3⟩ (to_trim (by kernel_rfl) (leB rfl)) ?_
        refine w_seq (fun K hK_35167 => ?_)
        refine w_block ?_
        refine w_reg ⟨[(6, .ptr 0 0), (8, .ptr 1 0), (9, .ptr 2 0), (10, I s_34598.2.2), (11, I 0)], [(0, ⟨31, 0, [I 0, I 0]⟩), (1, ⟨76, 0, (flat cI s_34598.1)⟩), (2, ⟨76, 0, (flat cI s_34598.2.1)⟩)], 3⟩ (by kernel_rfl) (leB rfl) ?_
        refine w_block ?_
        refine w_loopO h (fun (s_35542 : List Int × List Int × Int) => ⟨[(6, .ptr 0 0), (8, .ptr 1 0), (9, .ptr 2 0), (10, I s_34598.2.2), (11, I s_35542.2.2)], [(0, ⟨31, 0, [I 0, I 0]⟩), (1, ⟨76, 0, (flat cI s_35542.1)⟩), (2, ⟨76, 0, (flat cI s_35542.2.1)⟩)], 3⟩) (to_ren [] (leB rfl) (by kernel_rfl) (by kernel_rfl) (renE_of (by kernel_rfl) (by kernel_rfl)) ⟨reRn (by kernel_rfl) (leB rfl) (by kernel_rfl), ⟨rePl (by kernel_rfl) (leB rfl) (flat_all _ (fun _ => rfl) _), ⟨rePl (by kernel_rfl) (leB rfl) (flat_all _ (fun _ => rfl) _), trivial⟩⟩⟩) (fun s_35542 o h h_35543 K hK_35544 => ?_)
        · refine w_assoc ?_
          refine w_reg ⟨[(6, .ptr 0 0), (8, .ptr 1 0), (9, .ptr 2 0), (10, I s_34598.2.2), (11, I s_35542.2.2), (36, B (decide (s_35542.2.2 < 3)))], [(0, ⟨31, 0, [I 0, I 0]⟩), (1, ⟨76, 0, (flat cI s_35542.1)⟩), (2, ⟨76, 0, (flat cI s_35542.2.1)⟩)], 3⟩ (by kernel_rfl) (leB rfl) ?_
          refine w_seq (fun K hK_35546 => ?_)
          refine w_ite h (by kernel_rfl) (fun h_35547 h => ?_) (fun h_35547 h => ?_)
          · refine w_skip ?_
            refine hK_35546 _ ⟨[(6, .ptr 0 0), (8, .ptr 1 0), (9, .ptr 2 0), (10, I s_34598.2.2), (11, I s_35542.2.2)], [(0, ⟨31, 0, [I 0, I 0]⟩), (1, ⟨76, 0, (flat cI s_35542.1)⟩), (2, ⟨76, 0, (flat cI s_35542.2.1)⟩)], 3⟩ (to_trim (by kernel_rfl) (leB rfl)) ?_
            refine w_seq (fun K hK_35639 => ?_)
            refine w_block ?_
            refine w_seq (fun K hK_35662 => w_mix0 (by kernel_rfl) (by kernel_rfl) ?_)
            refine mm_run 0 1 rfl (by kernel_rfl) ?_
            obtain ⟨x_35666, h_35667, h⟩ := bind_some' h
            obtain ⟨_, h_35668, h⟩ := bind_some' h; replace h_35668 := lenO_some h_35668
            refine mm_one 1 (.indexAddr 76 (.tmp 8) (.tmp 39)) (some 40) (by kernel_rfl) (by kernel_rfl) (oH_pure (.ptr 1 (s_34598.2.2.toNat * 1)) (ev_idx_arr (N := 3) (e := 3) (k := 1) (ik := .i64) h_35667 h_35668 (by kernel_rfl) (by kernel_rfl) (by kernel_rfl) (by kernel_rfl)) rfl) ?_
            refine mm_one 2 (.load 3 (.tmp 40)) (some 41) (by kernel_rfl) (by kernel_rfl) (oH_pure (I x_35666) (ev_load_row (o := s_34598.2.2.toNat * 1) (b := 1) (i := s_34598.2.2.toNat) (j := 0) (k := 1) (c := cI) (sz := 0) (ty := 76) (fun _ => rfl) (getI_some h_35667).2 rfl (by kernel_rfl) (by kernel_rfl) (by kernel_rfl)) rfl) ?_
            obtain ⟨x_35669, h_35670, h⟩ := bind_some' h
            refine mm_one 3 (.call ⟨.value (.func 53), #[(.tmp 41)], #[3]⟩) (some 42) (by kernel_rfl) (by kernel_rfl) (oH_callP (g_estoppelref04_size_ok h_35670) (by kernel_rfl) rfl) ?_
            refine mm_run 4 6 rfl (by kernel_rfl) ?_
            obtain ⟨x_35674, h_35675, h⟩ := bind_some' h
            obtain ⟨_, h_35676, h⟩ := bind_some' h; replace h_35676 := lenO_some h_35676
            refine mm_one 6 (.indexAddr 76 (.tmp 9) (.tmp 44)) (some 45) (by kernel_rfl) (by kernel_rfl) (oH_pure (.ptr 2 (s_35542.2.2.toNat * 1)) (ev_idx_arr (N := 3) (e := 3) (k := 1) (ik := .i64) h_35675 h_35676 (by kernel_rfl) (by kernel_rfl) (by kernel_rfl) (by kernel_rfl)) rfl) ?_
            refine mm_one 7 (.load 3 (.tmp 45)) (some 46) (by kernel_rfl) (by kernel_rfl) (oH_pure (I x_35674) (ev_load_row (o := s_35542.2.2.toNat * 1) (b := 2) (i := s_35542.2.2.toNat) (j := 0) (k := 1) (c := cI) (sz := 0) (ty := 76) (fun _ => rfl) (getI_some h_35675).2 rfl (by kernel_rfl) (by kernel_rfl) (by kernel_rfl)) rfl) ?_
            refine mm_run 8 9 rfl (by kernel_rfl) ?_
            obtain ⟨x_35677, h_35678, h⟩ := bind_some' h
            refine mm_one 9 (.call ⟨.value (.func 50), #[(.tmp 43), (.tmp 47)], #[69, 69]⟩) (some 48) (by kernel_rfl) (by kernel_rfl) (oH_callP (g_estoppelref01_Gcd_ok h_35678) (by kernel_rfl) rfl) ?_
            refine mix_fin' hK_35662 ⟨[(6, .ptr 0 0), (8, .ptr 1 0), (9, .ptr 2 0), (10, I s_34598.2.2), (11, I s_35542.2.2), (12, I (IntKind.i64.wrap x_35677))], [(0, ⟨31, 0, [I 0, I 0]⟩), (1, ⟨76, 0, (flat cI s_35542.1)⟩), (2, ⟨76, 0, (flat cI s_35542.2.1)⟩)], 3⟩ (by kernel_rfl) (leB rfl) ?_
            refine w_seq (fun K hK_35698 => w_reg0 ?_)
            refine dd_run 0 2 rfl (by kernel_rfl) ?_
            obtain ⟨x_35702, h_35703, h⟩ := bind_some' h
            obtain ⟨_, h_35704, h⟩ := bind_some' h; replace h_35704 := lenO_some h_35704
            refine dd_one 2 (.indexAddr 76 (.tmp 8) (.tmp 51)) (some 52) (by kernel_rfl) (o_pure (.ptr 1 (s_34598.2.2.toNat * 1)) (ev_idx_arr (N := 3) (e := 3) (k := 1) (ik := .i64) h_35703 h_35704 (by kernel_rfl) (by kernel_rfl) (by kernel_rfl) (by kernel_rfl)) rfl) ?_
            refine dd_one 3 (.load 3 (.tmp 52)) (some 53) (by kernel_rfl) (o_pure (I x_35702) (ev_load_row (o := s_34598.2.2.toNat * 1) (b := 1) (i := s_34598.2.2.toNat) (j := 0) (k := 1) (c := cI) (sz := 0) (ty := 76) (fun _ => rfl) (getI_some h_35703).2 rfl (by kernel_rfl) (by kernel_rfl) (by kernel_rfl)) rfl) ?_
            refine dd_run 4 5 rfl (by kernel_rfl) ?_
            obtain ⟨x_35707, h_35708, h⟩ := bind_some' h
            refine dd_one 5 (.binOp .quo 3 (.tmp 53) (.tmp 54) 3) (some 55) (by kernel_rfl) (o_pure (I x_35707) (ev_quo h_35708 (by kernel_rfl) (by kernel_rfl)) rfl) ?_
            obtain ⟨x_35712, h_35713, h⟩ := bind_some' h
            obtain ⟨_, h_35714, h⟩ := bind_some' h; replace h_35714 := lenO_some h_35714
            refine dd_one 6 (.indexAddr 76 (.tmp 8) (.tmp 50)) (some 56) (by kernel_rfl) (o_pure (.ptr 1 (s_34598.2.2.toNat * 1)) (ev_idx_arr (N := 3) (e := 3) (k := 1) (ik := .i64) h_35713 h_35714 (by kernel_rfl) (by kernel_rfl) (by kernel_rfl) (by kernel_rfl)) rfl) ?_
            refine dd_one 7 (.store 3 (.tmp 56) (.tmp 55)) none (by kernel_rfl) (o_heap (U) [(0, ⟨31, 0, [I 0, I 0]⟩), (1, ⟨76, 0, (flat cI (setI s_35542.1 s_34598.2.2 x_35707))⟩), (2, ⟨76, 0, (flat cI s_35542.2.1)⟩)] 3 (by kernel_rfl) (hv_store_row (o := s_34598.2.2.toNat * 1) (b := 1) (y := I x_35707) (i := s_34598.2.2.toNat) (j := 0) (k := 1) (s := 1) (c := cI) (a' := x_35707) (sz := 0) (ty := 76) (fun _ => rfl) (getI_some h_35713).2 rfl (by kernel_rfl) (by kernel_rfl) (by kernel_rfl) (by kernel_rfl) (by kernel_rfl) (by kernel_rfl) (leB rfl) (by kernel_rfl)) rfl) ?_
            refine ops_fin' hK_35698 ⟨[(6, .ptr 0 0), (8, .ptr 1 0), (9, .ptr 2 0), (10, I s_34598.2.2), (11, I s_35542.2.2), (12, I (IntKind.i64.wrap x_35677))], [(0, ⟨31, 0, [I 0, I 0]⟩), (1, ⟨76, 0, (flat cI (setI s_35542.1 s_34598.2.2 x_35707))⟩), (2, ⟨76, 0, (flat cI s_35542.2.1)⟩)], 3⟩ (by kernel_rfl) (leB rfl) ?_
            refine w_reg0 ?_
            refine dd_run 0 2 rfl (by kernel_rfl) ?_
            obtain ⟨x_35718, h_35719, h⟩ := bind_some' h
            obtain ⟨_, h_35720, h⟩ := bind_some' h; replace h_35720 := lenO_some h_35720
            refine dd_one 2 (.indexAddr 76 (.tmp 9) (.tmp 58)) (some 59) (by kernel_rfl) (o_pure (.ptr 2 (s_35542.2.2.toNat * 1)) (ev_idx_arr (N := 3) (e := 3) (k := 1) (ik := .i64) h_35719 h_35720 (by kernel_rfl) (by kernel_rfl) (by kernel_rfl) (by kernel_rfl)) rfl) ?_
            refine dd_one 3 (.load 3 (.tmp 59)) (some 60) (by kernel_rfl) (o_pure (I x_35718) (ev_load_row (o := s_35542.2.2.toNat * 1) (b := 2) (i := s_35542.2.2.toNat) (j := 0) (k := 1) (c := cI) (sz := 0) (ty := 76) (fun _ => rfl) (getI_some h_35719).2 rfl (by kernel_rfl) (by kernel_rfl) (by kernel_rfl)) rfl) ?_
            refine dd_run 4 5 rfl (by kernel_rfl) ?_
            obtain ⟨x_35723, h_35724, h⟩ := bind_some' h
            refine dd_one 5 (.binOp .quo 3 (.tmp 60) (.tmp 61) 3) (some 62) (by kernel_rfl) (o_pure (I x_35723) (ev_quo h_35724 (by kernel_rfl) (by kernel_rfl)) rfl) ?_
            obtain ⟨x_35728, h_35729, h⟩ := bind_some' h
            obtain ⟨_, h_35730, h⟩ := bind_some' h; replace h_35730 := lenO_some h_35730
            refine dd_one 6 (.indexAddr 76 (.tmp 9) (.tmp 57)) (some 63) (by kernel_rfl) (o_pure (.ptr 2 (s_35542.2.2.toNat * 1)) (ev_idx_arr (N := 3) (e := 3) (k := 1) (ik := .i64) h_35729 h_35730 (by kernel_rfl) (by kernel_rfl) (by kernel_rfl) (by kernel_rfl)) rfl) ?_
            refine dd_one 7 (.store 3 (.tmp 63) (.tmp 62)) none (by kernel_rfl) (o_heap (U) [(0, ⟨31, 0, [I 0, I 0]⟩), (1, ⟨76, 0, (flat cI (setI s_35542.1 s_34598.2.2 x_35707))⟩), (2, ⟨76, 0, (flat cI (setI s_35542.2.1 s_35542.2.2 x_35723))⟩)] 3 (by kernel_rfl) (hv_store_row (o := s_35542.2.2.toNat * 1) (b := 2) (y := I x_35723) (i := s_35542.2.2.toNat) (j := 0) (k := 1) (s := 1) (c := cI) (a' := x_35723) (sz := 0) (ty := 76) (fun _ => rfl) (getI_some h_35729).2 rfl (by kernel_rfl) (by kernel_rfl) (by kernel_rfl) (by kernel_rfl) (by kernel_rfl) (by kernel_rfl) (leB rfl) (by kernel_rfl)) rfl) ?_
            refine dd_nil 8 rfl ?_
            refine hK_35639 _ ⟨[(6, .ptr 0 0), (8, .ptr 1 0), (9, .ptr 2 0), (10, I s_34598.2.2), (11, I s_35542.2.2)], [(0, ⟨31, 0, [I 0, I 0]⟩), (1, ⟨76, 0, (flat cI (setI s_35542.1 s_34598.2.2 x_35707))⟩), (2, ⟨76, 0, (flat cI (setI s_35542.2.1 s_35542.2.2 x_35723))⟩)], 3⟩ (to_trim (by kernel_rfl) (leB rfl)) ?_
            refine w_reg0 ?_
            refine dd_run 0 3 rfl (by kernel_rfl) ?_
            refine dd_nil 3 rfl ?_
            exact hK_35544 _ _ (Option.some.inj h).symm (to_ren [] (leB rfl) (by kernel_rfl) (by kernel_rfl) (renE_of (by kernel_rfl) (by kernel_rfl)) ⟨reRn (by kernel_rfl) (leB rfl) (by kernel_rfl), ⟨rePl (by kernel_rfl) (leB rfl) (flat_all _ (fun _ => rfl) _), ⟨rePl (by kernel_rfl) (leB rfl) (flat_all _ (fun _ => rfl) _), trivial⟩⟩⟩)
          · refine w_exit ?_
            refine hK_35167 _ ⟨[(6, .ptr 0 0), (8, .ptr 1 0), (9, .ptr 2 0), (10, I s_34598.2.2)], [(0, ⟨31, 0, [I 0, I 0]⟩), (1, ⟨76, 0, (flat cI s_35542.1)⟩), (2, ⟨76, 0, (flat cI s_35542.2.1)⟩)], 3⟩ (to_trim (by kernel_rfl) (leB rfl)) ?_
            refine w_reg0 ?_
            refine dd_run 0 3 rfl (by kernel_rfl) ?_
            refine dd_nil 3 rfl ?_
            exact hK_34600 _ _ (h_35543 _ (Option.some.inj h).symm).symm (to_ren [] (leB rfl) (by kernel_rfl) (by kernel_rfl) (renE_of (by kernel_rfl) (by kernel_rfl)) ⟨reRn (by kernel_rfl) (leB rfl) (by kernel_rfl), ⟨rePl (by kernel_rfl) (leB rfl) (flat_all _ (fun _ => rfl) _), ⟨rePl (by kernel_rfl) (leB rfl) (flat_all _ (fun _ => rfl) _), trivial⟩⟩⟩)
      · refine w_exit ?_
        exact hK_32339 _ _ (h_34599 _ (Option.some.inj h).symm).symm (to_ren [] (leB rfl) (by kernel_rfl) (by kernel_rfl) (renE_of (by kernel_rfl) (by kernel_rfl)) ⟨reRn (by kernel_rfl) (leB rfl) (by kernel_rfl), ⟨rePl (by kernel_rfl) (leB rfl) (flat_all _ (fun _ => rfl) _), ⟨rePl (by kernel_rfl) (leB rfl) (flat_all _ (fun _ => rfl) _), trivial⟩⟩⟩)
  · refine w_seq (fun K hK_35736 => w_reg0 ?_)
    obtain ⟨_, h_35738, h⟩ := bind_some' h; replace h_35738 := lenO_some h_35738
    refine dd_one 0 (.load 76 (.tmp 8)) (some 65) (by kernel_rfl) (o_pure (.agg (flat cI e_32337.1)) (ev_load_arr (dsc := .array 3 3) (k := 1) (s := 3) (sz := 0) (b := 1) (ty := 76) (c := cI) (l := e_32337.1) (fun _ => rfl) (by rw [h_35738]) (by kernel_rfl) rfl (by kernel_rfl) (by kernel_rfl) (by kernel_rfl)) rfl) ?_
    obtain ⟨x_35739, h_35740, h⟩ := bind_some' h
    refine dd_one 1 (.call ⟨.value (.func 54), #[(.tmp 65), (.const (.int .i64 (1000000000000)))], #[76, 3]⟩) (some 66) (by kernel_rfl) (o_callP (g_estoppelref04_times_ok h_35740) (by kernel_rfl) rfl) ?_
    refine ops_fin' hK_35736 ⟨[(6, .ptr 0 0), (9, .ptr 2 0), (13, I x_35739.1), (14, B x_35739.2)], [(0, ⟨31, 0, [I 0, I 0]⟩), (1, ⟨76, 0, (flat cI e_32337.1)⟩), (2, ⟨76, 0, (flat cI e_32337.2)⟩)], 3⟩ (by kernel_rfl) (leB rfl) ?_
    refine w_seq (fun K hK_35746 => w_reg0 ?_)
    obtain ⟨_, h_35748, h⟩ := bind_some' h; replace h_35748 := lenO_some h_35748
    refine dd_one 0 (.load 76 (.tmp 9)) (some 70) (by kernel_rfl) (o_pure (.agg (flat cI e_32337.2)) (ev_load_arr (dsc := .array 3 3) (k := 1) (s := 3) (sz := 0) (b := 2) (ty := 76) (c := cI) (l := e_32337.2) (fun _ => rfl) (by rw [h_35748]) (by kernel_rfl) rfl (by kernel_rfl) (by kernel_rfl) (by kernel_rfl)) rfl) ?_
    obtain ⟨x_35749, h_35750, h⟩ := bind_some' h
    refine dd_one 1 (.call ⟨.value (.func 54), #[(.tmp 70), (.const (.int .i64 (1000000)))], #[76, 3]⟩) (some 71) (by kernel_rfl) (o_callP (g_estoppelref04_times_ok h_35750) (by kernel_rfl) rfl) ?_
    refine ops_fin' hK_35746 ⟨[(6, .ptr 0 0), (13, I x_35739.1), (14, B x_35739.2), (15, I x_35749.1), (16, B x_35749.2)], [(0, ⟨31, 0, [I 0, I 0]⟩), (1, ⟨76, 0, (flat cI e_32337.1)⟩), (2, ⟨76, 0, (flat cI e_32337.2)⟩)], 3⟩ (by kernel_rfl) (leB rfl) ?_
    refine w_assoc ?_
    refine w_cut h (fun (e_35752 : Bool) => ⟨[(6, .ptr 0 0), (13, I x_35739.1), (15, I x_35749.1), (79, B e_35752)], [(0, ⟨31, 0, [I 0, I 0]⟩)], 1⟩) (fun o h h_35753 K hK_35754 => ?_) (fun e_35752 h => ?_)
    · refine w_reg0 ?_
      refine dd_run 0 3 rfl (by kernel_rfl) ?_
      refine ite_both h (fun h_35755 h => ?_) (fun h_35755 h => ?_)
      · refine dd_skip 3 5 2 false rfl (b := (!x_35739.2)) (by kernel_rfl) h_35755 (by kernel_rfl) ?_
        refine dd_one 5 (.pick (.tmp 76) (.const (.bool true)) (.tmp 78)) (some 79) (by kernel_rfl) (o_pure (B true) (ev_pickT h_35755 (by kernel_rfl) (by kernel_rfl)) rfl) ?_
        refine dd_nil 6 rfl ?_
        exact hK_35754 _ _ (Option.some.inj h).symm (to_ren [] (leB rfl) (by kernel_rfl) (by kernel_rfl) (renE_of (by kernel_rfl) (by kernel_rfl)) ⟨reRn (by kernel_rfl) (leB rfl) (by kernel_rfl), trivial⟩)
      · refine dd_runG 3 5 2 false rfl (b := (!x_35739.2)) (by kernel_rfl) h_35755 (by kernel_rfl) ?_
        refine dd_one 5 (.pick (.tmp 76) (.const (.bool true)) (.tmp 78)) (some 79) (by kernel_rfl) (o_pure (B (!x_35749.2)) (ev_pickF h_35755 (by kernel_rfl) (by kernel_rfl)) rfl) ?_
        refine dd_nil 6 rfl ?_
        exact hK_35754 _ _ (Option.some.inj h).symm (to_ren [] (leB rfl) (by kernel_rfl) (by kernel_rfl) (renE_of (by kernel_rfl) (by kernel_rfl)) ⟨reRn (by kernel_rfl) (leB rfl) (by kernel_rfl), trivial⟩)
    · refine w_seq (fun K hK_35757 => ?_)
      refine w_ite h (by kernel_rfl) (fun h_35758 h => ?_) (fun h_35758 h => ?_)
      · refine w_reg ⟨[(6, .ptr 0 0), (7, I 2)], [(0, ⟨31, 0, [I 0, I 0]⟩)], 1⟩ (by kernel_rfl) (leB rfl) ?_
        refine w_ret ?_
        obtain rfl := ((Option.some.inj h).symm).symm
        exact ret_leaf (.inl rfl) ⟨[(6, .ptr 0 0), (7, I 2)], [(0, ⟨31, 0, (cs_Ratio (D.Ratio.mk 0 0))⟩)], 1⟩ (to_ren [] (leB rfl) (by kernel_rfl) (by kernel_rfl) (renE_of (by kernel_rfl) (by kernel_rfl)) ⟨reRn (by kernel_rfl) (leB rfl) (by kernel_rfl), trivial⟩) [.agg (cs_Ratio (D.Ratio.mk 0 0)), I 2] (by kernel_rfl) (by kernel_rfl) (leB rfl) (by kernel_rfl) trivial
      · refine w_skip ?_
        refine hK_35757 _ ⟨[(6, .ptr 0 0), (13, I x_35739.1), (15, I x_35749.1)], [(0, ⟨31, 0, [I 0, I 0]⟩)], 1⟩ (to_trim (by kernel_rfl) (leB rfl)) ?_
        refine w_seq (fun K hK_35761 => w_reg0 ?_)
        refine dd_run 0 2 rfl (by kernel_rfl) ?_
        obtain ⟨x_35762, h_35763, h⟩ := bind_some' h
        refine dd_one 2 (.call ⟨.value (.func 55), #[(.tmp 81), (.tmp 82)], #[3, 3]⟩) (some 83) (by kernel_rfl) (o_callP (g_estoppelref01_Make_ok h_35763) (by kernel_rfl) rfl) ?_
        refine ops_fin' hK_35761 ⟨[(6, .ptr 0 0), (7, I x_35762.2)], [(0, ⟨31, 0, (cs_Ratio x_35762.1)⟩)], 1⟩ (by kernel_rfl) (leB rfl) ?_
        refine w_ret ?_
        obtain rfl := ((Option.some.inj h).symm).symm
        exact ret_leaf (.inl rfl) ⟨[(6, .ptr 0 0), (7, I x_35762.2)], [(0, ⟨31, 0, (cs_Ratio x_35762.1)⟩)], 1⟩ (to_ren [] (leB rfl) (by kernel_rfl) (by kernel_rfl) (renE_of (by kernel_rfl) (by kernel_rfl)) ⟨reRn (by kernel_rfl) (leB rfl) (by kernel_rfl), trivial⟩) [.agg (cs_Ratio x_35762.1), I x_35762.2] (by kernel_rfl) (by kernel_rfl) (leB rfl) (by kernel_rfl) trivial
end Go.Proofs.YtdfokoapenhalaaDoor.Ab
