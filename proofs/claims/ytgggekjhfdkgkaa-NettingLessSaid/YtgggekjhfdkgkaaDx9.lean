/- Functions of the program as plain functions (printed by wip/dec.py). -/
import Derived.Test.YtgggekjhfdkgkaaDx7
import Derived.Test.YtgggekjhfdkgkaaDx8
namespace Go.Proofs.Ytgggekjhfdkgkaa.Ab
open Go Go.RowKit Go.Shelf
/-- estoppel/estoppelref01.of -/
def g_estoppelref01_of (a1 : Bool) (a2 : Int) (a3 : Int) : Option (D.Ratio × Int) :=
  if (a3 == 0) = true then
  some ((D.Ratio.mk 0 0), 1)
  else
  (g_estoppelref01_Gcd a2 a3).bind fun x_16586 =>
  bindF (ρ := Bool) (
  (quoO .u64 a2 x_16586).bind fun x_16606 =>
  if (decide (x_16606 > 1000000000000)) = true then
  some (.inl true)
  else
  (quoO .u64 a3 x_16586).bind fun x_16613 =>
  some (.inl (decide (x_16613 > 1000000)))) (fun (e_16601 : Bool) =>
  if e_16601 = true then
  some ((D.Ratio.mk 0 0), 2)
  else
  (quoO .u64 a2 x_16586).bind fun x_16627 =>
  bindF (ρ := Int) (
  if a1 = true then
  some (.inl (IntKind.i64.wrap (0 - (IntKind.i64.wrap x_16627))))
  else
  some (.inl (IntKind.i64.wrap x_16627))) (fun (e_16630 : Int) =>
  (quoO .u64 a3 x_16586).bind fun x_16643 =>
  some ((D.Ratio.mk e_16630 (IntKind.i64.wrap x_16643)), 0)))
set_option maxHeartbeats 4000000 in
theorem g_estoppelref01_of_ok {a1 : Bool} {a2 : Int} {a3 : Int} {res : D.Ratio × Int} (h : g_estoppelref01_of a1 a2 a3 = some res) : SpecK Try.prog [] 59 [B a1, .s (.int .u64 a2), .s (.int .u64 a3)] [] 0 (.tup [.agg (cs_Ratio res.1), I res.2]) [] 0 := by
  refine ⟨spec_of_wp Try.func59 (by kernel_rfl) rfl Try.ntmps59 (by rw [Try.results59]) (leB rfl) ?_, by kernel_rfl, trivial, by kernel_rfl, trivial, by kernel_rfl⟩
  unfold g_estoppelref01_of at h
  refine w_reg ⟨[(0, B a1), (1, .s (.int .u64 a2)), (2, .s (.int .u64 a3)), (6, .ptr 0 0)], [(0, ⟨34, 0, [I 0, I 0]⟩)], 1⟩ (by kernel_rfl) (leB rfl) ?_
  refine w_assoc ?_
  refine w_reg ⟨[(0, B a1), (1, .s (.int .u64 a2)), (2, .s (.int .u64 a3)), (6, .ptr 0 0), (11, B (a3 == 0))], [(0, ⟨34, 0, [I 0, I 0]⟩)], 1⟩ (by kernel_rfl) (leB rfl) ?_
  refine w_seq (fun K hK_16581 => ?_)
  refine w_ite h (by kernel_rfl) (fun h_16582 h => ?_) (fun h_16582 h => ?_)
  · refine w_reg ⟨[(6, .ptr 0 0), (7, I 1)], [(0, ⟨34, 0, [I 0, I 0]⟩)], 1⟩ (by kernel_rfl) (leB rfl) ?_
    refine w_ret ?_
    obtain rfl := ((Option.some.inj h).symm).symm
    exact ret_leaf (.inl rfl) ⟨[(6, .ptr 0 0), (7, I 1)], [(0, ⟨34, 0, (cs_Ratio (D.Ratio.mk 0 0))⟩)], 1⟩ (to_ren [] (leB rfl) (by kernel_rfl) (by kernel_rfl) (renE_of (by kernel_rfl) (by kernel_rfl)) ⟨reRn (by kernel_rfl) (leB rfl) (by kernel_rfl), trivial⟩) [.agg (cs_Ratio (D.Ratio.mk 0 0)), I 1] (by kernel_rfl) (by kernel_rfl) (leB rfl) (by kernel_rfl) trivial
  · refine w_skip ?_
    refine hK_16581 _ ⟨[(0, B a1), (1, .s (.int .u64 a2)), (2, .s (.int .u64 a3)), (6, .ptr 0 0)], [(0, ⟨34, 0, [I 0, I 0]⟩)], 1⟩ (to_trim (by kernel_rfl) (leB rfl)) ?_
    refine w_seq (fun K hK_16585 => w_reg0 ?_)
    refine dd_run 0 2 rfl (by kernel_rfl) ?_
    obtain ⟨x_16586, h_16587, h⟩ := bind_some' h
    refine dd_one 2 (.call ⟨.value (.func 55), #[(.tmp 13), (.tmp 14)], #[65, 65]⟩) (some 15) (by kernel_rfl) (o_callP (g_estoppelref01_Gcd_ok h_16587) (by kernel_rfl) rfl) ?_
    refine ops_fin' hK_16585 ⟨[(0, B a1), (1, .s (.int .u64 a2)), (2, .s (.int .u64 a3)), (6, .ptr 0 0), (8, .s (.int .u64 x_16586))], [(0, ⟨34, 0, [I 0, I 0]⟩)], 1⟩ (by kernel_rfl) (leB rfl) ?_
    refine w_assoc ?_
    refine w_cut h (fun (e_16601 : Bool) => ⟨[(0, B a1), (1, .s (.int .u64 a2)), (2, .s (.int .u64 a3)), (6, .ptr 0 0), (8, .s (.int .u64 x_16586)), (25, B e_16601)], [(0, ⟨34, 0, [I 0, I 0]⟩)], 1⟩) (fun o h h_16602 K hK_16603 => ?_) (fun e_16601 h => ?_)
    · refine w_reg0 ?_
      refine dd_run 0 2 rfl (by kernel_rfl) ?_
      obtain ⟨x_16606, h_16607, h⟩ := bind_some' h
      refine dd_one 2 (.binOp .quo 65 (.tmp 16) (.tmp 17) 65) (some 18) (by kernel_rfl) (o_pure (.s (.int .u64 x_16606)) (ev_quo h_16607 (by kernel_rfl) (by kernel_rfl)) rfl) ?_
      refine dd_run 3 5 rfl (by kernel_rfl) ?_
      refine ite_both h (fun h_16608 h => ?_) (fun h_16608 h => ?_)
      · refine dd_skip 5 9 4 false rfl (b := (decide (x_16606 > 1000000000000))) (by kernel_rfl) h_16608 (by kernel_rfl) ?_
        refine dd_one 9 (.pick (.tmp 20) (.const (.bool true)) (.tmp 24)) (some 25) (by kernel_rfl) (o_pure (B true) (ev_pickT h_16608 (by kernel_rfl) (by kernel_rfl)) rfl) ?_
        refine dd_nil 10 rfl ?_
        exact hK_16603 _ _ (Option.some.inj h).symm (to_ren [] (leB rfl) (by kernel_rfl) (by kernel_rfl) (renE_of (by kernel_rfl) (by kernel_rfl)) ⟨reRn (by kernel_rfl) (leB rfl) (by kernel_rfl), trivial⟩)
      · refine dd_runG 5 7 4 false rfl (b := (decide (x_16606 > 1000000000000))) (by kernel_rfl) h_16608 (by kernel_rfl) ?_
        obtain ⟨x_16613, h_16614, h⟩ := bind_some' h
        refine dd_oneG 7 (.binOp .quo 65 (.tmp 21) (.tmp 22) 65) (some 23) 4 false (b := (decide (x_16606 > 1000000000000))) (by kernel_rfl) (by kernel_rfl) h_16608 (o_pure (.s (.int .u64 x_16613)) (ev_quo h_16614 (by kernel_rfl) (by kernel_rfl)) rfl) ?_
        refine dd_runG 8 9 4 false rfl (b := (decide (x_16606 > 1000000000000))) (by kernel_rfl) h_16608 (by kernel_rfl) ?_
        refine dd_one 9 (.pick (.tmp 20) (.const (.bool true)) (.tmp 24)) (some 25) (by kernel_rfl) (o_pure (B (decide (x_16613 > 1000000))) (ev_pickF h_16608 (by kernel_rfl) (by kernel_rfl)) rfl) ?_
        refine dd_nil 10 rfl ?_
        exact hK_16603 _ _ (Option.some.inj h).symm (to_ren [] (leB rfl) (by kernel_rfl) (by kernel_rfl) (renE_of (by kernel_rfl) (by kernel_rfl)) ⟨reRn (by kernel_rfl) (leB rfl) (by kernel_rfl), trivial⟩)
    · refine w_seq (fun K hK_16616 => ?_)
      refine w_ite h (by kernel_rfl) (fun h_16617 h => ?_) (fun h_16617 h => ?_)
      · refine w_reg ⟨[(6, .ptr 0 0), (7, I 2)], [(0, ⟨34, 0, [I 0, I 0]⟩)], 1⟩ (by kernel_rfl) (leB rfl) ?_
        refine w_ret ?_
        obtain rfl := ((Option.some.inj h).symm).symm
        exact ret_leaf (.inl rfl) ⟨[(6, .ptr 0 0), (7, I 2)], [(0, ⟨34, 0, (cs_Ratio (D.Ratio.mk 0 0))⟩)], 1⟩ (to_ren [] (leB rfl) (by kernel_rfl) (by kernel_rfl) (renE_of (by kernel_rfl) (by kernel_rfl)) ⟨reRn (by kernel_rfl) (leB rfl) (by kernel_rfl), trivial⟩) [.agg (cs_Ratio (D.Ratio.mk 0 0)), I 2] (by kernel_rfl) (by kernel_rfl) (leB rfl) (by kernel_rfl) trivial
      · refine w_skip ?_
        refine hK_16616 _ ⟨[(0, B a1), (1, .s (.int .u64 a2)), (2, .s (.int .u64 a3)), (6, .ptr 0 0), (8, .s (.int .u64 x_16586))], [(0, ⟨34, 0, [I 0, I 0]⟩)], 1⟩ (to_trim (by kernel_rfl) (leB rfl)) ?_
        refine w_seq (fun K hK_16624 => w_reg0 ?_)
        refine dd_run 0 2 rfl (by kernel_rfl) ?_
        obtain ⟨x_16627, h_16628, h⟩ := bind_some' h
        refine dd_one 2 (.binOp .quo 65 (.tmp 27) (.tmp 28) 65) (some 29) (by kernel_rfl) (o_pure (.s (.int .u64 x_16627)) (ev_quo h_16628 (by kernel_rfl) (by kernel_rfl)) rfl) ?_
        refine ops_fin' hK_16624 ⟨[(0, B a1), (2, .s (.int .u64 a3)), (6, .ptr 0 0), (8, .s (.int .u64 x_16586)), (9, I (IntKind.i64.wrap x_16627))], [(0, ⟨34, 0, [I 0, I 0]⟩)], 1⟩ (by kernel_rfl) (leB rfl) ?_
        refine w_assoc ?_
        refine w_reg ⟨[(2, .s (.int .u64 a3)), (6, .ptr 0 0), (8, .s (.int .u64 x_16586)), (9, I (IntKind.i64.wrap x_16627)), (31, B a1)], [(0, ⟨34, 0, [I 0, I 0]⟩)], 1⟩ (by kernel_rfl) (leB rfl) ?_
        refine w_cut h (fun (e_16630 : Int) => ⟨[(2, .s (.int .u64 a3)), (6, .ptr 0 0), (8, .s (.int .u64 x_16586)), (9, I e_16630)], [(0, ⟨34, 0, [I 0, I 0]⟩)], 1⟩) (fun o h h_16631 K hK_16632 => ?_) (fun e_16630 h => ?_)
        · refine w_ite h (by kernel_rfl) (fun h_16633 h => ?_) (fun h_16633 h => ?_)
          · refine w_reg0 ?_
            refine dd_run 0 3 rfl (by kernel_rfl) ?_
            refine dd_nil 3 rfl ?_
            exact hK_16632 _ _ (Option.some.inj h).symm (to_ren [] (leB rfl) (by kernel_rfl) (by kernel_rfl) (renE_of (by kernel_rfl) (by kernel_rfl)) ⟨reRn (by kernel_rfl) (leB rfl) (by kernel_rfl), trivial⟩)
          · refine w_skip ?_
            exact hK_16632 _ _ (Option.some.inj h).symm (to_ren [] (leB rfl) (by kernel_rfl) (by kernel_rfl) (renE_of (by kernel_rfl) (by kernel_rfl)) ⟨reRn (by kernel_rfl) (leB rfl) (by kernel_rfl), trivial⟩)
        · refine w_seq (fun K hK_16640 => w_reg0 ?_)
          refine dd_run 0 3 rfl (by kernel_rfl) ?_
          obtain ⟨x_16643, h_16644, h⟩ := bind_some' h
          refine dd_one 3 (.binOp .quo 65 (.tmp 35) (.tmp 36) 65) (some 37) (by kernel_rfl) (o_pure (.s (.int .u64 x_16643)) (ev_quo h_16644 (by kernel_rfl) (by kernel_rfl)) rfl) ?_
          refine ops_fin' hK_16640 ⟨[(6, .ptr 0 0), (7, I 0)], [(0, ⟨34, 0, [I e_16630, I (IntKind.i64.wrap x_16643)]⟩)], 1⟩ (by kernel_rfl) (leB rfl) ?_
          refine w_ret ?_
          obtain rfl := ((Option.some.inj h).symm).symm
          exact ret_leaf (.inl rfl) ⟨[(6, .ptr 0 0), (7, I 0)], [(0, ⟨34, 0, (cs_Ratio (D.Ratio.mk e_16630 (IntKind.i64.wrap x_16643)))⟩)], 1⟩ (to_ren [] (leB rfl) (by kernel_rfl) (by kernel_rfl) (renE_of (by kernel_rfl) (by kernel_rfl)) ⟨reRn (by kernel_rfl) (leB rfl) (by kernel_rfl), trivial⟩) [.agg (cs_Ratio (D.Ratio.mk e_16630 (IntKind.i64.wrap x_16643))), I 0] (by kernel_rfl) (by kernel_rfl) (leB rfl) (by kernel_rfl) trivial
/-- estoppel/estoppelref01.Make -/
def g_estoppelref01_Make (a1 : Int) (a2 : Int) : Option (D.Ratio × Int) :=
  (g_estoppelref01_size a1).bind fun x_16661 =>
  (g_estoppelref01_size a2).bind fun x_16663 =>
  (g_estoppelref01_of (!((decide (a1 < 0)) == (decide (a2 < 0)))) x_16661 x_16663).bind fun x_16665 =>
  some (x_16665.1, x_16665.2)
set_option maxHeartbeats 4000000 in
theorem g_estoppelref01_Make_ok {a1 : Int} {a2 : Int} {res : D.Ratio × Int} (h : g_estoppelref01_Make a1 a2 = some res) : SpecK Try.prog [] 51 [I a1, I a2] [] 0 (.tup [.agg (cs_Ratio res.1), I res.2]) [] 0 := by
  refine ⟨spec_of_wp Try.func51 (by kernel_rfl) rfl Try.ntmps51 (by rw [Try.results51]) (leB rfl) ?_, by kernel_rfl, trivial, by kernel_rfl, trivial, by kernel_rfl⟩
  unfold g_estoppelref01_Make at h
  refine w_reg ⟨[(0, I a1), (1, I a2), (4, .ptr 0 0)], [(0, ⟨34, 0, [I 0, I 0]⟩)], 1⟩ (by kernel_rfl) (leB rfl) ?_
  refine w_seq (fun K hK_16660 => w_reg0 ?_)
  refine dd_run 0 6 rfl (by kernel_rfl) ?_
  obtain ⟨x_16661, h_16662, h⟩ := bind_some' h
  refine dd_one 6 (.call ⟨.value (.func 56), #[(.tmp 11)], #[3]⟩) (some 12) (by kernel_rfl) (o_callP (g_estoppelref01_size_ok h_16662) (by kernel_rfl) rfl) ?_
  refine dd_run 7 8 rfl (by kernel_rfl) ?_
  obtain ⟨x_16663, h_16664, h⟩ := bind_some' h
  refine dd_one 8 (.call ⟨.value (.func 56), #[(.tmp 13)], #[3]⟩) (some 14) (by kernel_rfl) (o_callP (g_estoppelref01_size_ok h_16664) (by kernel_rfl) rfl) ?_
  obtain ⟨x_16665, h_16666, h⟩ := bind_some' h
  refine dd_one 9 (.call ⟨.value (.func 59), #[(.tmp 10), (.tmp 12), (.tmp 14)], #[4, 65, 65]⟩) (some 15) (by kernel_rfl) (o_callP (g_estoppelref01_of_ok h_16666) (by kernel_rfl) rfl) ?_
  refine ops_fin' hK_16660 ⟨[(4, .ptr 0 0), (5, I x_16665.2)], [(0, ⟨34, 0, (cs_Ratio x_16665.1)⟩)], 1⟩ (by kernel_rfl) (leB rfl) ?_
  refine w_ret ?_
  obtain rfl := ((Option.some.inj h).symm).symm
  exact ret_leaf (.inl rfl) ⟨[(4, .ptr 0 0), (5, I x_16665.2)], [(0, ⟨34, 0, (cs_Ratio x_16665.1)⟩)], 1⟩ (to_ren [] (leB rfl) (by kernel_rfl) (by kernel_rfl) (renE_of (by kernel_rfl) (by kernel_rfl)) ⟨reRn (by kernel_rfl) (leB rfl) (by kernel_rfl), trivial⟩) [.agg (cs_Ratio x_16665.1), I x_16665.2] (by kernel_rfl) (by kernel_rfl) (leB rfl) (by kernel_rfl) trivial
/-- estoppel/estoppelref01.Add -/
def g_estoppelref01_Add (a1 : D.Ratio) (a2 : D.Ratio) : Option (D.Ratio × Int) :=
  bindF (ρ := Bool) (
  (g_estoppelref01_Valid a1).bind fun x_16680 =>
  if (!x_16680) = true then
  some (.inl true)
  else
  (g_estoppelref01_Valid a2).bind fun x_16683 =>
  some (.inl (!x_16683))) (fun (e_16677 : Bool) =>
  if e_16677 = true then
  some ((D.Ratio.mk 0 0), 1)
  else
  (g_estoppelref01_Make (IntKind.i64.wrap ((IntKind.i64.wrap (a1.Num * a2.Den)) + (IntKind.i64.wrap (a2.Num * a1.Den)))) (IntKind.i64.wrap (a1.Den * a2.Den))).bind fun x_16691 =>
  some (x_16691.1, x_16691.2))
set_option maxHeartbeats 4000000 in
theorem g_estoppelref01_Add_ok {a1 : D.Ratio} {a2 : D.Ratio} {res : D.Ratio × Int} (h : g_estoppelref01_Add a1 a2 = some res) : SpecK Try.prog [] 39 [.agg (cs_Ratio a1), .agg (cs_Ratio a2)] [] 0 (.tup [.agg (cs_Ratio res.1), I res.2]) [] 0 := by
  refine ⟨spec_of_wp Try.func39 (by kernel_rfl) rfl Try.ntmps39 (by rw [Try.results39]) (leB rfl) ?_, by kernel_rfl, trivial, by kernel_rfl, trivial, by kernel_rfl⟩
  unfold g_estoppelref01_Add at h
  refine w_reg ⟨[(2, .ip (cs_Ratio a1)), (3, .ip (cs_Ratio a2)), (4, .ptr 0 0)], [(0, ⟨34, 0, [I 0, I 0]⟩)], 1⟩ (by kernel_rfl) (leB rfl) ?_
  refine w_assoc ?_
  refine w_cut h (fun (e_16677 : Bool) => ⟨[(2, .ip (cs_Ratio a1)), (3, .ip (cs_Ratio a2)), (4, .ptr 0 0), (13, B e_16677)], [(0, ⟨34, 0, [I 0, I 0]⟩)], 1⟩) (fun o h h_16678 K hK_16679 => ?_) (fun e_16677 h => ?_)
  · refine w_reg0 ?_
    refine dd_run 0 1 rfl (by kernel_rfl) ?_
    obtain ⟨x_16680, h_16681, h⟩ := bind_some' h
    refine dd_one 1 (.call ⟨.value (.func 44), #[(.tmp 6)], #[34]⟩) (some 7) (by kernel_rfl) (o_callP (g_estoppelref01_Valid_ok h_16681) (by kernel_rfl) rfl) ?_
    refine dd_run 2 4 rfl (by kernel_rfl) ?_
    refine ite_both h (fun h_16682 h => ?_) (fun h_16682 h => ?_)
    · refine dd_skip 4 7 3 false rfl (b := (!x_16680)) (by kernel_rfl) h_16682 (by kernel_rfl) ?_
      refine dd_one 7 (.pick (.tmp 9) (.const (.bool true)) (.tmp 12)) (some 13) (by kernel_rfl) (o_pure (B true) (ev_pickT h_16682 (by kernel_rfl) (by kernel_rfl)) rfl) ?_
      refine dd_nil 8 rfl ?_
      exact hK_16679 _ _ (Option.some.inj h).symm (to_ren [] (leB rfl) (by kernel_rfl) (by kernel_rfl) (renE_of (by kernel_rfl) (by kernel_rfl)) ⟨reRn (by kernel_rfl) (leB rfl) (by kernel_rfl), trivial⟩)
    · refine dd_runG 4 5 3 false rfl (b := (!x_16680)) (by kernel_rfl) h_16682 (by kernel_rfl) ?_
      obtain ⟨x_16683, h_16684, h⟩ := bind_some' h
      refine dd_oneG 5 (.call ⟨.value (.func 44), #[(.tmp 10)], #[34]⟩) (some 11) 3 false (b := (!x_16680)) (by kernel_rfl) (by kernel_rfl) h_16682 (o_callP (g_estoppelref01_Valid_ok h_16684) (by kernel_rfl) rfl) ?_
      refine dd_runG 6 7 3 false rfl (b := (!x_16680)) (by kernel_rfl) h_16682 (by kernel_rfl) ?_
      refine dd_one 7 (.pick (.tmp 9) (.const (.bool true)) (.tmp 12)) (some 13) (by kernel_rfl) (o_pure (B (!x_16683)) (ev_pickF h_16682 (by kernel_rfl) (by kernel_rfl)) rfl) ?_
      refine dd_nil 8 rfl ?_
      exact hK_16679 _ _ (Option.some.inj h).symm (to_ren [] (leB rfl) (by kernel_rfl) (by kernel_rfl) (renE_of (by kernel_rfl) (by kernel_rfl)) ⟨reRn (by kernel_rfl) (leB rfl) (by kernel_rfl), trivial⟩)
  · refine w_seq (fun K hK_16686 => ?_)
    refine w_ite h (by kernel_rfl) (fun h_16687 h => ?_) (fun h_16687 h => ?_)
    · refine w_reg ⟨[(4, .ptr 0 0), (5, I 1)], [(0, ⟨34, 0, [I 0, I 0]⟩)], 1⟩ (by kernel_rfl) (leB rfl) ?_
      refine w_ret ?_
      obtain rfl := ((Option.some.inj h).symm).symm
      exact ret_leaf (.inl rfl) ⟨[(4, .ptr 0 0), (5, I 1)], [(0, ⟨34, 0, (cs_Ratio (D.Ratio.mk 0 0))⟩)], 1⟩ (to_ren [] (leB rfl) (by kernel_rfl) (by kernel_rfl) (renE_of (by kernel_rfl) (by kernel_rfl)) ⟨reRn (by kernel_rfl) (leB rfl) (by kernel_rfl), trivial⟩) [.agg (cs_Ratio (D.Ratio.mk 0 0)), I 1] (by kernel_rfl) (by kernel_rfl) (leB rfl) (by kernel_rfl) trivial
    · refine w_skip ?_
      refine hK_16686 _ ⟨[(2, .ip (cs_Ratio a1)), (3, .ip (cs_Ratio a2)), (4, .ptr 0 0)], [(0, ⟨34, 0, [I 0, I 0]⟩)], 1⟩ (to_trim (by kernel_rfl) (leB rfl)) ?_
      refine w_seq (fun K hK_16690 => w_reg0 ?_)
      refine dd_run 0 16 rfl (by kernel_rfl) ?_
      obtain ⟨x_16691, h_16692, h⟩ := bind_some' h
      refine dd_one 16 (.call ⟨.value (.func 51), #[(.tmp 25), (.tmp 30)], #[3, 3]⟩) (some 31) (by kernel_rfl) (o_callP (g_estoppelref01_Make_ok h_16692) (by kernel_rfl) rfl) ?_
      refine ops_fin' hK_16690 ⟨[(4, .ptr 0 0), (5, I x_16691.2)], [(0, ⟨34, 0, (cs_Ratio x_16691.1)⟩)], 1⟩ (by kernel_rfl) (leB rfl) ?_
      refine w_ret ?_
      obtain rfl := ((Option.some.inj h).symm).symm
      exact ret_leaf (.inl rfl) ⟨[(4, .ptr 0 0), (5, I x_16691.2)], [(0, ⟨34, 0, (cs_Ratio x_16691.1)⟩)], 1⟩ (to_ren [] (leB rfl) (by kernel_rfl) (by kernel_rfl) (renE_of (by kernel_rfl) (by kernel_rfl)) ⟨reRn (by kernel_rfl) (leB rfl) (by kernel_rfl), trivial⟩) [.agg (cs_Ratio x_16691.1), I x_16691.2] (by kernel_rfl) (by kernel_rfl) (leB rfl) (by kernel_rfl) trivial
/-- estoppel/estoppelref42.Minus -/
def g_estoppelref42_Minus (a1 : D.Ratio) : Option (D.Ratio) :=
  some (D.Ratio.mk (IntKind.i64.wrap (0 - a1.Num)) a1.Den)
set_option maxHeartbeats 4000000 in
theorem g_estoppelref42_Minus_ok {a1 : D.Ratio} {res : D.Ratio} (h : g_estoppelref42_Minus a1 = some res) : SpecK Try.prog [] 32 [.agg (cs_Ratio a1)] [] 0 (.agg (cs_Ratio res)) [] 0 := by
  refine ⟨spec_of_wp Try.func32 (by kernel_rfl) rfl Try.ntmps32 (by rw [Try.results32]) (leB rfl) ?_, by kernel_rfl, trivial, by kernel_rfl, trivial, by kernel_rfl⟩
  unfold g_estoppelref42_Minus at h
  refine w_reg ⟨[(1, .ip (cs_Ratio a1)), (2, .ptr 0 0)], [(0, ⟨34, 0, [I 0, I 0]⟩)], 1⟩ (by kernel_rfl) (leB rfl) ?_
  refine w_reg ⟨[(2, .ptr 0 0)], [(0, ⟨34, 0, [I (IntKind.i64.wrap (0 - a1.Num)), I a1.Den]⟩)], 1⟩ (by kernel_rfl) (leB rfl) ?_
  refine w_ret ?_
  obtain rfl := ((Option.some.inj h).symm).symm
  exact ret_leaf (.inl rfl) ⟨[(2, .ptr 0 0)], [(0, ⟨34, 0, (cs_Ratio (D.Ratio.mk (IntKind.i64.wrap (0 - a1.Num)) a1.Den))⟩)], 1⟩ (to_ren [] (leB rfl) (by kernel_rfl) (by kernel_rfl) (renE_of (by kernel_rfl) (by kernel_rfl)) ⟨reRn (by kernel_rfl) (leB rfl) (by kernel_rfl), trivial⟩) [.agg (cs_Ratio (D.Ratio.mk (IntKind.i64.wrap (0 - a1.Num)) a1.Den))] (by kernel_rfl) (by kernel_rfl) (leB rfl) (by kernel_rfl) trivial
/-- estoppel/estoppelref42.position -/
def g_estoppelref42_position (a1 : List D.Debt) (a2 : Int) : Option (D.Ratio × Int) :=
  (g_estoppelref42_Zero).bind fun x_17544 =>
  bindF (ρ := D.Ratio) (
  loopO (σ := D.Ratio × Int) (fun s_18269 =>
  if (decide (s_18269.2 < (a1.length : Int))) = true then
  (getI a1 s_18269.2).bind fun x_18355 =>
  bindF (ρ := D.Ratio × Int) (
  if (x_18355.To == a2) = true then
  (getI a1 s_18269.2).bind fun x_18390 =>
  (g_estoppelref01_Add s_18269.1 x_18390.Amount).bind fun x_18392 =>
  some (.inl (x_18392.1, x_18392.2))
  else
  (getI a1 s_18269.2).bind fun x_18403 =>
  if (x_18403.From == a2) = true then
  (getI a1 s_18269.2).bind fun x_18408 =>
  (g_estoppelref42_Minus x_18408.Amount).bind fun x_18410 =>
  (g_estoppelref01_Add s_18269.1 x_18410).bind fun x_18412 =>
  some (.inl (x_18412.1, x_18412.2))
  else
  some (.inl (s_18269.1, 0))) (fun (e_18384 : D.Ratio × Int) =>
  if (e_18384.2 != 0) = true then
  some (.inr (.inr ((D.Ratio.mk 0 0), e_18384.2)))
  else
  some (.inl (e_18384.1, (IntKind.i64.wrap (s_18269.2 + 1)))))
  else
  some (.inr (.inl s_18269.1))) (x_17544, 0)) (fun (e_17978 : D.Ratio) =>
  some (e_17978, 0))
set_option maxHeartbeats 4000000 in
theorem g_estoppelref42_position_ok {a1 : List D.Debt} {a2 : Int} {res : D.Ratio × Int} (h : g_estoppelref42_position a1 a2 = some res) : SpecK Try.prog [] 28 [sl 4 cs_Debt a1, I a2] [] 0 (.tup [.agg (cs_Ratio res.1), I res.2]) [] 0 := by
  refine ⟨spec_of_wp Try.func28 (by kernel_rfl) rfl Try.ntmps28 (by rw [Try.results28]) (leB rfl) ?_, by kernel_rfl, trivial, by kernel_rfl, trivial, by kernel_rfl⟩
  unfold g_estoppelref42_position at h
  refine w_reg ⟨[(0, sl 4 cs_Debt a1), (1, I a2), (4, .ptr 0 0)], [(0, ⟨34, 0, [I 0, I 0]⟩)], 1⟩ (by kernel_rfl) (leB rfl) ?_
  refine w_seq (fun K hK_17543 => w_reg0 ?_)
  obtain ⟨x_17544, h_17545, h⟩ := bind_some' h
  refine dd_one 0 (.call ⟨.value (.func 48), #[], #[]⟩) (some 9) (by kernel_rfl) (o_callP (g_estoppelref42_Zero_ok h_17545) (by kernel_rfl) rfl) ?_
  refine ops_fin' hK_17543 ⟨[(0, sl 4 cs_Debt a1), (1, I a2), (4, .ptr 0 0), (6, .ptr 1 0)], [(1, ⟨34, 0, (cs_Ratio x_17544)⟩), (0, ⟨34, 0, [I 0, I 0]⟩)], 2⟩ (by kernel_rfl) (leB rfl) ?_
  refine w_assoc ?_
  refine w_reg ⟨[(0, sl 4 cs_Debt a1), (1, I a2), (4, .ptr 0 0), (6, .ptr 1 0), (7, I 0)], [(1, ⟨34, 0, (cs_Ratio x_17544)⟩), (0, ⟨34, 0, [I 0, I 0]⟩)], 2⟩ (by kernel_rfl) (leB rfl) ?_
  refine w_cut h (fun (e_17978 : D.Ratio) => ⟨[(4, .ptr 0 0), (6, .ptr 1 0)], [(0, ⟨34, 0, [I 0, I 0]⟩), (1, ⟨34, 0, (cs_Ratio e_17978)⟩)], 2⟩) (fun o h h_17979 K hK_17980 => ?_) (fun e_17978 h => ?_)
  · refine w_block ?_
    refine w_loopO h (fun (s_18269 : D.Ratio × Int) => ⟨[(0, sl 4 cs_Debt a1), (1, I a2), (4, .ptr 0 0), (6, .ptr 1 0), (7, I s_18269.2)], [(0, ⟨34, 0, [I 0, I 0]⟩), (1, ⟨34, 0, (cs_Ratio s_18269.1)⟩)], 2⟩) (to_ren [] (leB rfl) (by kernel_rfl) (by kernel_rfl) (renE_of (by kernel_rfl) (by kernel_rfl)) ⟨reRn (by kernel_rfl) (leB rfl) (by kernel_rfl), ⟨reRn (by kernel_rfl) (leB rfl) (by kernel_rfl), trivial⟩⟩) (fun s_18269 o h h_18270 K hK_18271 => ?_)
    · refine w_assoc ?_
      refine w_seq (fun K hK_18272 => w_reg0 ?_)
      refine dd_run 0 2 rfl (by kernel_rfl) ?_
      refine dd_one 2 (.call ⟨.builtin .len, #[(.tmp 11)], #[22]⟩) (some 12) (by kernel_rfl) (o_pure (I (a1.length : Int)) (ev_len_sl (e := 38) (ty := 0) (k := 4) (c := cs_Debt) (by kernel_rfl) (by kernel_rfl)) rfl) ?_
      refine ops_fin' hK_18272 ⟨[(0, sl 4 cs_Debt a1), (1, I a2), (4, .ptr 0 0), (6, .ptr 1 0), (7, I s_18269.2), (13, B (decide (s_18269.2 < (a1.length : Int))))], [(0, ⟨34, 0, [I 0, I 0]⟩), (1, ⟨34, 0, (cs_Ratio s_18269.1)⟩)], 2⟩ (by kernel_rfl) (leB rfl) ?_
      refine w_seq (fun K hK_18274 => ?_)
      refine w_ite h (by kernel_rfl) (fun h_18275 h => ?_) (fun h_18275 h => ?_)
      · refine w_skip ?_
        refine hK_18274 _ ⟨[(0, sl 4 cs_Debt a1), (1, I a2), (4, .ptr 0 0), (6, .ptr 1 0), (7, I s_18269.2)], [(0, ⟨34, 0, [I 0, I 0]⟩), (1, ⟨34, 0, (cs_Ratio s_18269.1)⟩)], 2⟩ (to_trim (by kernel_rfl) (leB rfl)) ?_
        refine w_seq (fun K hK_18345 => ?_)
        refine w_block ?_
        refine w_reg ⟨[(0, sl 4 cs_Debt a1), (1, I a2), (4, .ptr 0 0), (6, .ptr 1 0), (7, I s_18269.2), (8, I 0)], [(0, ⟨34, 0, [I 0, I 0]⟩), (1, ⟨34, 0, (cs_Ratio s_18269.1)⟩)], 2⟩ (by kernel_rfl) (leB rfl) ?_
        refine w_assoc ?_
        refine w_seq (fun K hK_18352 => w_reg0 ?_)
        refine dd_run 0 2 rfl (by kernel_rfl) ?_
        obtain ⟨x_18355, h_18356, h⟩ := bind_some' h
        refine dd_one 2 (.indexAddr 22 (.tmp 16) (.tmp 17)) (some 18) (by kernel_rfl) (o_pure (.ip (cs_Debt x_18355)) (ev_idx_sl (e := 38) (k := 4) (c := cs_Debt) (ik := .i64) h_18356 (by kernel_rfl) (by kernel_rfl) (by kernel_rfl) (by kernel_rfl)) rfl) ?_
        refine ops_fin' hK_18352 ⟨[(0, sl 4 cs_Debt a1), (1, I a2), (4, .ptr 0 0), (6, .ptr 1 0), (7, I s_18269.2), (8, I 0), (22, B (x_18355.To == a2))], [(0, ⟨34, 0, [I 0, I 0]⟩), (1, ⟨34, 0, (cs_Ratio s_18269.1)⟩)], 2⟩ (by kernel_rfl) (leB rfl) ?_
        refine w_cut h (fun (e_18384 : D.Ratio × Int) => ⟨[(0, sl 4 cs_Debt a1), (1, I a2), (4, .ptr 0 0), (6, .ptr 1 0), (7, I s_18269.2), (8, I e_18384.2)], [(0, ⟨34, 0, [I 0, I 0]⟩), (1, ⟨34, 0, (cs_Ratio e_18384.1)⟩)], 2⟩) (fun o h h_18385 K hK_18386 => ?_) (fun e_18384 h => ?_)
        · refine w_ite h (by kernel_rfl) (fun h_18387 h => ?_) (fun h_18387 h => ?_)
          · refine w_mix0 (by kernel_rfl) (by kernel_rfl) ?_
            refine mm_run 0 3 rfl (by kernel_rfl) ?_
            obtain ⟨x_18390, h_18391, h⟩ := bind_some' h
            refine mm_one 3 (.indexAddr 22 (.tmp 25) (.tmp 26)) (some 27) (by kernel_rfl) (by kernel_rfl) (oH_pure (.ip (cs_Debt x_18390)) (ev_idx_sl (e := 38) (k := 4) (c := cs_Debt) (ik := .i64) h_18391 (by kernel_rfl) (by kernel_rfl) (by kernel_rfl) (by kernel_rfl)) rfl) ?_
            refine mm_run 4 6 rfl (by kernel_rfl) ?_
            obtain ⟨x_18392, h_18393, h⟩ := bind_some' h
            refine mm_one 6 (.call ⟨.value (.func 39), #[(.tmp 24), (.tmp 29)], #[34, 34]⟩) (some 30) (by kernel_rfl) (by kernel_rfl) (oH_callP (g_estoppelref01_Add_ok h_18393) (by kernel_rfl) rfl) ?_
            refine mm_run 7 10 rfl (by kernel_rfl) ?_
            refine mm_ops 10 (.store 34 (.tmp 6) (.tmp 31)) none none (by kernel_rfl) (by kernel_rfl) ?_
            refine dd_run 10 12 rfl (by kernel_rfl) ?_
            refine dd_nil 12 rfl ?_
            exact hK_18386 _ _ (Option.some.inj h).symm (to_ren [] (leB rfl) (by kernel_rfl) (by kernel_rfl) (renE_of (by kernel_rfl) (by kernel_rfl)) ⟨reRn (by kernel_rfl) (leB rfl) (by kernel_rfl), ⟨reRn (by kernel_rfl) (leB rfl) (by kernel_rfl), trivial⟩⟩)
          · refine w_seq (fun K hK_18400 => w_reg0 ?_)
            refine dd_run 0 2 rfl (by kernel_rfl) ?_
            obtain ⟨x_18403, h_18404, h⟩ := bind_some' h
            refine dd_one 2 (.indexAddr 22 (.tmp 33) (.tmp 34)) (some 35) (by kernel_rfl) (o_pure (.ip (cs_Debt x_18403)) (ev_idx_sl (e := 38) (k := 4) (c := cs_Debt) (ik := .i64) h_18404 (by kernel_rfl) (by kernel_rfl) (by kernel_rfl) (by kernel_rfl)) rfl) ?_
            refine ops_fin' hK_18400 ⟨[(0, sl 4 cs_Debt a1), (1, I a2), (4, .ptr 0 0), (6, .ptr 1 0), (7, I s_18269.2), (8, I 0), (39, B (x_18403.From == a2))], [(0, ⟨34, 0, [I 0, I 0]⟩), (1, ⟨34, 0, (cs_Ratio s_18269.1)⟩)], 2⟩ (by kernel_rfl) (leB rfl) ?_
            refine w_ite h (by kernel_rfl) (fun h_18405 h => ?_) (fun h_18405 h => ?_)
            · refine w_mix0 (by kernel_rfl) (by kernel_rfl) ?_
              refine mm_run 0 3 rfl (by kernel_rfl) ?_
              obtain ⟨x_18408, h_18409, h⟩ := bind_some' h
              refine mm_one 3 (.indexAddr 22 (.tmp 42) (.tmp 43)) (some 44) (by kernel_rfl) (by kernel_rfl) (oH_pure (.ip (cs_Debt x_18408)) (ev_idx_sl (e := 38) (k := 4) (c := cs_Debt) (ik := .i64) h_18409 (by kernel_rfl) (by kernel_rfl) (by kernel_rfl) (by kernel_rfl)) rfl) ?_
              refine mm_run 4 6 rfl (by kernel_rfl) ?_
              obtain ⟨x_18410, h_18411, h⟩ := bind_some' h
              refine mm_one 6 (.call ⟨.value (.func 32), #[(.tmp 46)], #[34]⟩) (some 47) (by kernel_rfl) (by kernel_rfl) (oH_callP (g_estoppelref42_Minus_ok h_18411) (by kernel_rfl) rfl) ?_
              obtain ⟨x_18412, h_18413, h⟩ := bind_some' h
              refine mm_one 7 (.call ⟨.value (.func 39), #[(.tmp 41), (.tmp 47)], #[34, 34]⟩) (some 48) (by kernel_rfl) (by kernel_rfl) (oH_callP (g_estoppelref01_Add_ok h_18413) (by kernel_rfl) rfl) ?_
              refine mm_run 8 11 rfl (by kernel_rfl) ?_
              refine mm_ops 11 (.store 34 (.tmp 6) (.tmp 49)) none none (by kernel_rfl) (by kernel_rfl) ?_
              refine dd_run 11 13 rfl (by kernel_rfl) ?_
              refine dd_nil 13 rfl ?_
              exact hK_18386 _ _ (Option.some.inj h).symm (to_ren [] (leB rfl) (by kernel_rfl) (by kernel_rfl) (renE_of (by kernel_rfl) (by kernel_rfl)) ⟨reRn (by kernel_rfl) (leB rfl) (by kernel_rfl), ⟨reRn (by kernel_rfl) (leB rfl) (by kernel_rfl), trivial⟩⟩)
            · refine w_skip ?_
              exact hK_18386 _ _ (Option.some.inj h).symm (to_ren [] (leB rfl) (by kernel_rfl) (by kernel_rfl) (renE_of (by kernel_rfl) (by kernel_rfl)) ⟨reRn (by kernel_rfl) (leB rfl) (by kernel_rfl), ⟨reRn (by kernel_rfl) (leB rfl) (by kernel_rfl), trivial⟩⟩)
        · refine w_reg ⟨[(0, sl 4 cs_Debt a1), (1, I a2), (4, .ptr 0 0), (6, .ptr 1 0), (7, I s_18269.2), (8, I e_18384.2), (52, B (e_18384.2 != 0))], [(0, ⟨34, 0, [I 0, I 0]⟩), (1, ⟨34, 0, (cs_Ratio e_18384.1)⟩)], 2⟩ (by kernel_rfl) (leB rfl) ?_
          refine w_ite h (by kernel_rfl) (fun h_18414 h => ?_) (fun h_18414 h => ?_)
          · refine w_reg ⟨[(4, .ptr 0 0), (5, I e_18384.2)], [(0, ⟨34, 0, [I 0, I 0]⟩), (1, ⟨34, 0, (cs_Ratio e_18384.1)⟩)], 2⟩ (by kernel_rfl) (leB rfl) ?_
            refine w_ret ?_
            obtain rfl := ((h_17979 _ (h_18270 _ (Option.some.inj h).symm).symm).symm).symm
            exact ret_leaf (.inl rfl) ⟨[(4, .ptr 0 0), (5, I e_18384.2)], [(0, ⟨34, 0, (cs_Ratio (D.Ratio.mk 0 0))⟩)], 1⟩ (to_ren [] (leB rfl) (by kernel_rfl) (by kernel_rfl) (renE_of (by kernel_rfl) (by kernel_rfl)) ⟨reRn (by kernel_rfl) (leB rfl) (by kernel_rfl), trivial⟩) [.agg (cs_Ratio (D.Ratio.mk 0 0)), I e_18384.2] (by kernel_rfl) (by kernel_rfl) (leB rfl) (by kernel_rfl) trivial
          · refine w_skip ?_
            refine hK_18345 _ ⟨[(0, sl 4 cs_Debt a1), (1, I a2), (4, .ptr 0 0), (6, .ptr 1 0), (7, I s_18269.2)], [(0, ⟨34, 0, [I 0, I 0]⟩), (1, ⟨34, 0, (cs_Ratio e_18384.1)⟩)], 2⟩ (to_trim (by kernel_rfl) (leB rfl)) ?_
            refine w_reg0 ?_
            refine dd_run 0 3 rfl (by kernel_rfl) ?_
            refine dd_nil 3 rfl ?_
            exact hK_18271 _ _ (Option.some.inj h).symm (to_ren [] (leB rfl) (by kernel_rfl) (by kernel_rfl) (renE_of (by kernel_rfl) (by kernel_rfl)) ⟨reRn (by kernel_rfl) (leB rfl) (by kernel_rfl), ⟨reRn (by kernel_rfl) (leB rfl) (by kernel_rfl), trivial⟩⟩)
      · refine w_exit ?_
        exact hK_17980 _ _ (h_18270 _ (Option.some.inj h).symm).symm (to_ren [] (leB rfl) (by kernel_rfl) (by kernel_rfl) (renE_of (by kernel_rfl) (by kernel_rfl)) ⟨reRn (by kernel_rfl) (leB rfl) (by kernel_rfl), ⟨reRn (by kernel_rfl) (leB rfl) (by kernel_rfl), trivial⟩⟩)
  · refine w_reg ⟨[(4, .ptr 0 0), (5, I 0)], [(0, ⟨34, 0, (cs_Ratio e_17978)⟩), (1, ⟨34, 0, (cs_Ratio e_17978)⟩)], 2⟩ (by kernel_rfl) (leB rfl) ?_
    refine w_ret ?_
    obtain rfl := ((Option.some.inj h).symm).symm
    exact ret_leaf (.inl rfl) ⟨[(4, .ptr 0 0), (5, I 0)], [(0, ⟨34, 0, (cs_Ratio e_17978)⟩)], 1⟩ (to_ren [] (leB rfl) (by kernel_rfl) (by kernel_rfl) (renE_of (by kernel_rfl) (by kernel_rfl)) ⟨reRn (by kernel_rfl) (leB rfl) (by kernel_rfl), trivial⟩) [.agg (cs_Ratio e_17978), I 0] (by kernel_rfl) (by kernel_rfl) (leB rfl) (by kernel_rfl) trivial
/-- estoppel/estoppelref42.Positions -/
def g_estoppelref42_Positions (a1 : Int) (a2 : List D.Debt) : Option (List D.Ratio × Int) :=
  (g_estoppelref42_Valid a1 a2).bind fun x_18593 =>
  if (!x_18593) = true then
  some ([], 1)
  else
  bindF (ρ := List D.Ratio) (
  loopO (σ := List D.Ratio × Int) (fun s_18746 =>
  if (decide (s_18746.2 < a1)) = true then
  (g_estoppelref42_position a2 s_18746.2).bind fun x_18768 =>
  if (x_18768.2 != 0) = true then
  some (.inr (.inr ([], x_18768.2)))
  else
  (appO 16 s_18746.1 [x_18768.1]).bind fun x_18775 =>
  some (.inl (x_18775, (IntKind.i64.wrap (s_18746.2 + 1))))
  else
  some (.inr (.inl s_18746.1))) ([], 0)) (fun (e_18685 : List D.Ratio) =>
  some (e_18685, 0))
set_option maxHeartbeats 4000000 in
theorem g_estoppelref42_Positions_ok {a1 : Int} {a2 : List D.Debt} {res : List D.Ratio × Int} (h : g_estoppelref42_Positions a1 a2 = some res) : SpecK Try.prog [] 11 [I a1, sl 4 cs_Debt a2] [] 0 (.tup [sl 2 cs_Ratio res.1, I res.2]) [] 0 := by
  refine ⟨spec_of_wp Try.func11 (by kernel_rfl) rfl Try.ntmps11 (by rw [Try.results11]) (leB rfl) ?_, by kernel_rfl, trivial, by kernel_rfl, trivial, by kernel_rfl⟩
  unfold g_estoppelref42_Positions at h
  refine w_reg ⟨[(0, I a1), (1, sl 4 cs_Debt a2)], [], 0⟩ (by kernel_rfl) (leB rfl) ?_
  refine w_assoc ?_
  refine w_seq (fun K hK_18592 => w_reg0 ?_)
  refine dd_run 0 2 rfl (by kernel_rfl) ?_
  obtain ⟨x_18593, h_18594, h⟩ := bind_some' h
  refine dd_one 2 (.call ⟨.value (.func 17), #[(.tmp 10), (.tmp 11)], #[3, 22]⟩) (some 12) (by kernel_rfl) (o_callP (g_estoppelref42_Valid_ok h_18594) (by kernel_rfl) rfl) ?_
  refine ops_fin' hK_18592 ⟨[(0, I a1), (1, sl 4 cs_Debt a2), (13, B (!x_18593))], [], 0⟩ (by kernel_rfl) (leB rfl) ?_
  refine w_seq (fun K hK_18596 => ?_)
  refine w_ite h (by kernel_rfl) (fun h_18597 h => ?_) (fun h_18597 h => ?_)
  · refine w_reg ⟨[(4, Nl), (5, I 1)], [], 0⟩ (by kernel_rfl) (leB rfl) ?_
    refine w_ret ?_
    obtain rfl := ((Option.some.inj h).symm).symm
    exact ret_leaf (.inl rfl) ⟨[(4, sl 2 cs_Ratio []), (5, I 1)], [], 0⟩ (to_trans (to_put 4 (leB rfl) (by kernel_rfl) (Sub.nil 2)) (to_ren [] (leB rfl) (by kernel_rfl) (by kernel_rfl) (renE_of (by kernel_rfl) (by kernel_rfl)) trivial)) [sl 2 cs_Ratio [], I 1] (by kernel_rfl) (by kernel_rfl) (leB rfl) (by kernel_rfl) trivial
  · refine w_skip ?_
    refine hK_18596 _ ⟨[(0, I a1), (1, sl 4 cs_Debt a2)], [], 0⟩ (to_trim (by kernel_rfl) (leB rfl)) ?_
    refine w_reg ⟨[(0, I a1), (1, sl 4 cs_Debt a2), (6, Nl)], [], 0⟩ (by kernel_rfl) (leB rfl) ?_
    refine w_assoc ?_
    refine w_reg ⟨[(0, I a1), (1, sl 4 cs_Debt a2), (6, Nl), (7, I 0)], [], 0⟩ (by kernel_rfl) (leB rfl) ?_
    refine w_cut h (fun (e_18685 : List D.Ratio) => ⟨[(6, sl 2 cs_Ratio e_18685)], [], 0⟩) (fun o h h_18686 K hK_18687 => ?_) (fun e_18685 h => ?_)
    · refine w_block ?_
      refine w_loopO h (fun (s_18746 : List D.Ratio × Int) => ⟨[(0, I a1), (1, sl 4 cs_Debt a2), (6, growE 0 s_18746.1), (7, I s_18746.2)], (growH 0 ⟨34, 2, flat cs_Ratio s_18746.1⟩ s_18746.1 []), 1⟩) (to_ren [] (leB rfl) (by kernel_rfl) (by kernel_rfl) (renE_of (by kernel_rfl) (by kernel_rfl)) trivial) (fun s_18746 o h h_18747 K hK_18748 => ?_)
      · refine w_assoc ?_
        refine w_reg ⟨[(0, I a1), (1, sl 4 cs_Debt a2), (6, growE 0 s_18746.1), (7, I s_18746.2), (16, B (decide (s_18746.2 < a1)))], (growH 0 ⟨34, 2, flat cs_Ratio s_18746.1⟩ s_18746.1 []), 1⟩ (by kernel_rfl) (leB rfl) ?_
        refine w_seq (fun K hK_18750 => ?_)
        refine w_ite h (by kernel_rfl) (fun h_18751 h => ?_) (fun h_18751 h => ?_)
        · refine w_skip ?_
          refine hK_18750 _ ⟨[(0, I a1), (1, sl 4 cs_Debt a2), (6, growE 0 s_18746.1), (7, I s_18746.2)], (growH 0 ⟨34, 2, flat cs_Ratio s_18746.1⟩ s_18746.1 []), 1⟩ (to_trim (by kernel_rfl) (leB rfl)) ?_
          refine w_seq (fun K hK_18764 => ?_)
          refine w_block ?_
          refine w_seq (fun K hK_18767 => w_reg0 ?_)
          refine dd_run 0 2 rfl (by kernel_rfl) ?_
          obtain ⟨x_18768, h_18769, h⟩ := bind_some' h
          refine dd_one 2 (.call ⟨.value (.func 28), #[(.tmp 20), (.tmp 21)], #[22, 3]⟩) (some 22) (by kernel_rfl) (o_callP (g_estoppelref42_position_ok h_18769) (by kernel_rfl) rfl) ?_
          refine ops_fin' hK_18767 ⟨[(0, I a1), (1, sl 4 cs_Debt a2), (6, growE 0 s_18746.1), (7, I s_18746.2), (8, .ptr 1 0), (9, I x_18768.2)], ((1, ⟨34, 0, (cs_Ratio x_18768.1)⟩) :: (growH 0 ⟨34, 2, flat cs_Ratio s_18746.1⟩ s_18746.1 [])), 2⟩ (by kernel_rfl) (leB rfl) ?_
          refine w_assoc ?_
          refine w_reg ⟨[(0, I a1), (1, sl 4 cs_Debt a2), (6, growE 0 s_18746.1), (7, I s_18746.2), (8, .ptr 1 0), (9, I x_18768.2), (26, B (x_18768.2 != 0))], ((1, ⟨34, 0, (cs_Ratio x_18768.1)⟩) :: (growH 0 ⟨34, 2, flat cs_Ratio s_18746.1⟩ s_18746.1 [])), 2⟩ (by kernel_rfl) (leB rfl) ?_
          refine w_seq (fun K hK_18771 => ?_)
          refine w_ite h (by kernel_rfl) (fun h_18772 h => ?_) (fun h_18772 h => ?_)
          · refine w_reg ⟨[(4, Nl), (5, I x_18768.2)], ((1, ⟨34, 0, (cs_Ratio x_18768.1)⟩) :: (growH 0 ⟨34, 2, flat cs_Ratio s_18746.1⟩ s_18746.1 [])), 2⟩ (by kernel_rfl) (leB rfl) ?_
            refine w_ret ?_
            obtain rfl := ((h_18686 _ (h_18747 _ (Option.some.inj h).symm).symm).symm).symm
            exact ret_leaf (.inl rfl) ⟨[(4, sl 2 cs_Ratio []), (5, I x_18768.2)], [], 0⟩ (to_trans (to_put 4 (leB rfl) (by kernel_rfl) (Sub.nil 2)) (to_ren [] (leB rfl) (by kernel_rfl) (by kernel_rfl) (renE_of (by kernel_rfl) (by kernel_rfl)) trivial)) [sl 2 cs_Ratio [], I x_18768.2] (by kernel_rfl) (by kernel_rfl) (leB rfl) (by kernel_rfl) trivial
          · refine w_skip ?_
            refine hK_18771 _ ⟨[(0, I a1), (1, sl 4 cs_Debt a2), (6, growE 0 s_18746.1), (7, I s_18746.2), (8, .ptr 1 0)], ((1, ⟨34, 0, (cs_Ratio x_18768.1)⟩) :: (growH 0 ⟨34, 2, flat cs_Ratio s_18746.1⟩ s_18746.1 [])), 2⟩ (to_trim (by kernel_rfl) (leB rfl)) ?_
            refine w_reg0 ?_
            refine dd_run 0 3 rfl (by kernel_rfl) ?_
            obtain ⟨x_18775, h_18776, h⟩ := bind_some' h
            refine dd_one 3 (.call ⟨.builtin .append, #[(.tmp 28), (.tmp 30)], #[24, 24]⟩) (some 31) (by kernel_rfl) (o_heap (.own 2 x_18775.length) [(2, ⟨34, 2, flat cs_Ratio x_18775⟩), (1, ⟨34, 0, (cs_Ratio x_18768.1)⟩)] 3 (by kernel_rfl) (hv_append (sv := growE 0 s_18746.1) (xv := sl 2 cs_Ratio [x_18768.1]) (by kernel_rfl) (by kernel_rfl) (app_new (e := 34) (k := 2) (c := cs_Ratio) h_18776 (.inl (appO_pos h_18776)) (by kernel_rfl) (by kernel_rfl) (by kernel_rfl) (by kernel_rfl : zeroT _ _ = some [I 0, I 0]) (leB rfl) rfl (old_grow (k := 2) (c := cs_Ratio) (A := [(1, ⟨34, 0, (cs_Ratio x_18768.1)⟩)]) (T := []) (fun _ => rfl) _ (by kernel_rfl) (by kernel_rfl) (by kernel_rfl) (by kernel_rfl)) (new_sl (k := 2) (c := cs_Ratio) (fun _ => rfl) _))) rfl) ?_
            refine dd_run 4 5 rfl (by kernel_rfl) ?_
            refine dd_nil 5 rfl ?_
            refine hK_18764 _ ⟨[(0, I a1), (1, sl 4 cs_Debt a2), (6, .own 2 x_18775.length), (7, I s_18746.2)], [(2, ⟨34, 2, flat cs_Ratio x_18775⟩), (1, ⟨34, 0, (cs_Ratio x_18768.1)⟩)], 3⟩ (to_trim (by kernel_rfl) (leB rfl)) ?_
            refine w_reg0 ?_
            refine dd_run 0 3 rfl (by kernel_rfl) ?_
            refine dd_nil 3 rfl ?_
            obtain ⟨y_, ys_, hy_⟩ := ne_cons (appO_pos h_18776); subst hy_
            exact hK_18748 _ _ (Option.some.inj h).symm (to_ren [(0, 2)] (leB rfl) (by kernel_rfl) (by kernel_rfl) (renE_of (by kernel_rfl) (by kernel_rfl)) ⟨rePl (by kernel_rfl) (leB rfl) (flat_all _ (fun _ => rfl) _), trivial⟩)
        · refine w_exit ?_
          exact hK_18687 _ _ (h_18747 _ (Option.some.inj h).symm).symm (to_trans (to_freezeG 6 0 s_18746.1 34 [] [] (k := 2) (c := cs_Ratio) (leB rfl) (by kernel_rfl) (by kernel_rfl) (by kernel_rfl) (free_nil _) (by kernel_rfl) (leB rfl) (fun _ => rfl) (fun _ => rfl) (fun _ => rfl)) (to_ren [] (leB rfl) (by kernel_rfl) (by kernel_rfl) (renE_of (by kernel_rfl) (by kernel_rfl)) trivial))
    · refine w_reg ⟨[(4, sl 2 cs_Ratio e_18685), (5, I 0)], [], 0⟩ (by kernel_rfl) (leB rfl) ?_
      refine w_ret ?_
      obtain rfl := ((Option.some.inj h).symm).symm
      exact ret_leaf (.inl rfl) ⟨[(4, sl 2 cs_Ratio e_18685), (5, I 0)], [], 0⟩ (to_ren [] (leB rfl) (by kernel_rfl) (by kernel_rfl) (renE_of (by kernel_rfl) (by kernel_rfl)) trivial) [sl 2 cs_Ratio e_18685, I 0] (by kernel_rfl) (by kernel_rfl) (leB rfl) (by kernel_rfl) trivial
end Go.Proofs.Ytgggekjhfdkgkaa.Ab
