/- Functions of the program as plain functions (printed by wip/dec.py). -/
import Derived.Test.YtgggekjhfdkgkaaDx1
import Derived.Test.YtgggekjhfdkgkaaDx2
namespace Go.Proofs.Ytgggekjhfdkgkaa.Ab
open Go Go.RowKit Go.Shelf
/-- slices.IndexFunc[[]estoppel/api.Debt,estoppel/api.Debt] -/
def g_slices_IndexFunc_Valid_2 (a1 : List D.Debt) (a2 : Int) : Option (Int) :=
  bindF (ρ := Unit) (
  loopO (σ := Int) (fun s_1943 =>
  if (decide (s_1943 < (a1.length : Int))) = true then
  (getI a1 s_1943).bind fun x_1977 =>
  (g_netting_Valid_2 x_1977 a2).bind fun x_1979 =>
  if x_1979 = true then
  some (.inr (.inr s_1943))
  else
  some (.inl (IntKind.i64.wrap (s_1943 + 1)))
  else
  some (.inr (.inl ()))) 0) (fun (e_1866 : Unit) =>
  some (-1))
set_option maxHeartbeats 4000000 in
theorem g_slices_IndexFunc_Valid_2_ok {a1 : List D.Debt} {a2 : Int} {res : Int} (h : g_slices_IndexFunc_Valid_2 a1 a2 = some res) : SpecK Try.prog [] 52 [sl 4 cs_Debt a1, .fn 42 [.ptr 0 0]] [(0, ⟨55, 0, [.fn 40 [.ip [I a2]]]⟩)] 1 (I res) [(0, ⟨55, 0, [.fn 40 [.ip [I a2]]]⟩)] 1 := by
  refine ⟨spec_of_wp Try.func52 (by kernel_rfl) rfl Try.ntmps52 (by rw [Try.results52]) (leB rfl) ?_, by kernel_rfl, ⟨⟨leB rfl, by kernel_rfl⟩, trivial⟩, by kernel_rfl, ⟨⟨leB rfl, by kernel_rfl⟩, trivial⟩, by kernel_rfl⟩
  unfold g_slices_IndexFunc_Valid_2 at h
  refine w_reg ⟨[(0, sl 4 cs_Debt a1), (1, .fn 42 [.ptr 0 0])], [(0, ⟨55, 0, [.fn 40 [.ip [I a2]]]⟩)], 1⟩ (by kernel_rfl) (leB rfl) ?_
  refine w_assoc ?_
  refine w_seq (fun K hK_1754 => w_reg0 ?_)
  refine dd_run 0 1 rfl (by kernel_rfl) ?_
  refine dd_one 1 (.call ⟨.builtin .len, #[(.tmp 6)], #[22]⟩) (some 7) (by kernel_rfl) (o_pure (I (a1.length : Int)) (ev_len_sl (e := 38) (ty := 0) (k := 4) (c := cs_Debt) (by kernel_rfl) (by kernel_rfl)) rfl) ?_
  refine ops_fin' hK_1754 ⟨[(0, sl 4 cs_Debt a1), (1, .fn 42 [.ptr 0 0]), (7, I (a1.length : Int)), (8, I 0)], [(0, ⟨55, 0, [.fn 40 [.ip [I a2]]]⟩)], 1⟩ (by kernel_rfl) (leB rfl) ?_
  refine w_cut h (fun (e_1866 : Unit) => ⟨[], [(0, ⟨55, 0, [.fn 40 [.ip [I a2]]]⟩)], 1⟩) (fun o h h_1867 K hK_1868 => ?_) (fun e_1866 h => ?_)
  · refine w_block ?_
    refine w_loopO h (fun (s_1943 : Int) => ⟨[(0, sl 4 cs_Debt a1), (1, .fn 42 [.ptr 0 0]), (7, I (a1.length : Int)), (8, I s_1943)], [(0, ⟨55, 0, [.fn 40 [.ip [I a2]]]⟩)], 1⟩) (to_ren [] (leB rfl) (by kernel_rfl) (by kernel_rfl) (renE_of (by kernel_rfl) (by kernel_rfl)) ⟨reRn (by kernel_rfl) (leB rfl) (by kernel_rfl), trivial⟩) (fun s_1943 o h h_1944 K hK_1945 => ?_)
    · refine w_reg ⟨[(0, sl 4 cs_Debt a1), (1, .fn 42 [.ptr 0 0]), (7, I (a1.length : Int)), (8, I s_1943), (9, B (decide (s_1943 < (a1.length : Int))))], [(0, ⟨55, 0, [.fn 40 [.ip [I a2]]]⟩)], 1⟩ (by kernel_rfl) (leB rfl) ?_
      refine w_seq (fun K hK_1947 => ?_)
      refine w_ite h (by kernel_rfl) (fun h_1948 h => ?_) (fun h_1948 h => ?_)
      · refine w_skip ?_
        refine hK_1947 _ ⟨[(0, sl 4 cs_Debt a1), (1, .fn 42 [.ptr 0 0]), (7, I (a1.length : Int)), (8, I s_1943)], [(0, ⟨55, 0, [.fn 40 [.ip [I a2]]]⟩)], 1⟩ (to_trim (by kernel_rfl) (leB rfl)) ?_
        refine w_seq (fun K hK_1965 => ?_)
        refine w_block ?_
        refine w_reg ⟨[(0, sl 4 cs_Debt a1), (1, .fn 42 [.ptr 0 0]), (5, I s_1943), (7, I (a1.length : Int)), (8, I s_1943)], [(0, ⟨55, 0, [.fn 40 [.ip [I a2]]]⟩)], 1⟩ (by kernel_rfl) (leB rfl) ?_
        refine w_seq (fun K hK_1974 => w_reg0 ?_)
        refine dd_run 0 3 rfl (by kernel_rfl) ?_
        obtain ⟨x_1977, h_1978, h⟩ := bind_some' h
        refine dd_one 3 (.indexAddr 22 (.tmp 12) (.tmp 13)) (some 14) (by kernel_rfl) (o_pure (.ip (cs_Debt x_1977)) (ev_idx_sl (e := 38) (k := 4) (c := cs_Debt) (ik := .i64) h_1978 (by kernel_rfl) (by kernel_rfl) (by kernel_rfl) (by kernel_rfl)) rfl) ?_
        refine dd_run 4 5 rfl (by kernel_rfl) ?_
        obtain ⟨x_1979, h_1980, h⟩ := bind_some' h
        refine dd_one 5 (.call ⟨.value (.tmp 11), #[(.tmp 15)], #[38]⟩) (some 16) (by kernel_rfl) (o_callE [0] (g_netting_Valid_2_ok h_1980) (by kernel_rfl) (by kernel_rfl) (by kernel_rfl) rfl) ?_
        refine ops_fin' hK_1974 ⟨[(0, sl 4 cs_Debt a1), (1, .fn 42 [.ptr 0 0]), (5, I s_1943), (7, I (a1.length : Int)), (8, I s_1943), (16, B x_1979)], [(0, ⟨55, 0, [.fn 40 [.ip [I a2]]]⟩)], 1⟩ (by kernel_rfl) (leB rfl) ?_
        refine w_ite h (by kernel_rfl) (fun h_1981 h => ?_) (fun h_1981 h => ?_)
        · refine w_reg ⟨[(4, I s_1943)], [(0, ⟨55, 0, [.fn 40 [.ip [I a2]]]⟩)], 1⟩ (by kernel_rfl) (leB rfl) ?_
          refine w_ret ?_
          obtain rfl := ((h_1867 _ (h_1944 _ (Option.some.inj h).symm).symm).symm).symm
          exact ret_leaf (.inl rfl) ⟨[(4, I s_1943)], [(0, ⟨55, 0, [.fn 40 [.ip [I a2]]]⟩)], 1⟩ (to_ren [] (leB rfl) (by kernel_rfl) (by kernel_rfl) (renE_of (by kernel_rfl) (by kernel_rfl)) ⟨reRn (by kernel_rfl) (leB rfl) (by kernel_rfl), trivial⟩) [I s_1943] (by kernel_rfl) (by kernel_rfl) (leB rfl) (by kernel_rfl) ⟨⟨by kernel_rfl, leB rfl, (by kernel_rfl)⟩, trivial⟩
        · refine w_skip ?_
          refine hK_1965 _ ⟨[(0, sl 4 cs_Debt a1), (1, .fn 42 [.ptr 0 0]), (7, I (a1.length : Int)), (8, I s_1943)], [(0, ⟨55, 0, [.fn 40 [.ip [I a2]]]⟩)], 1⟩ (to_trim (by kernel_rfl) (leB rfl)) ?_
          refine w_reg0 ?_
          refine dd_run 0 2 rfl (by kernel_rfl) ?_
          refine dd_nil 2 rfl ?_
          exact hK_1945 _ _ (Option.some.inj h).symm (to_ren [] (leB rfl) (by kernel_rfl) (by kernel_rfl) (renE_of (by kernel_rfl) (by kernel_rfl)) ⟨reRn (by kernel_rfl) (leB rfl) (by kernel_rfl), trivial⟩)
      · refine w_exit ?_
        exact hK_1868 _ _ (h_1944 _ (Option.some.inj h).symm).symm (to_ren [] (leB rfl) (by kernel_rfl) (by kernel_rfl) (renE_of (by kernel_rfl) (by kernel_rfl)) ⟨reRn (by kernel_rfl) (leB rfl) (by kernel_rfl), trivial⟩)
  · refine w_reg ⟨[(4, I (-1))], [(0, ⟨55, 0, [.fn 40 [.ip [I a2]]]⟩)], 1⟩ (by kernel_rfl) (leB rfl) ?_
    refine w_ret ?_
    obtain rfl := ((Option.some.inj h).symm).symm
    exact ret_leaf (.inl rfl) ⟨[(4, I (-1))], [(0, ⟨55, 0, [.fn 40 [.ip [I a2]]]⟩)], 1⟩ (to_ren [] (leB rfl) (by kernel_rfl) (by kernel_rfl) (renE_of (by kernel_rfl) (by kernel_rfl)) ⟨reRn (by kernel_rfl) (leB rfl) (by kernel_rfl), trivial⟩) [I (-1)] (by kernel_rfl) (by kernel_rfl) (leB rfl) (by kernel_rfl) ⟨⟨by kernel_rfl, leB rfl, (by kernel_rfl)⟩, trivial⟩
/-- slices.ContainsFunc[[]estoppel/api.Debt,estoppel/api.Debt] -/
def g_slices_ContainsFunc_Valid_2 (a1 : List D.Debt) (a2 : Int) : Option (Bool) :=
  (g_slices_IndexFunc_Valid_2 a1 a2).bind fun x_1990 =>
  some (decide (x_1990 ≥ 0))
set_option maxHeartbeats 4000000 in
theorem g_slices_ContainsFunc_Valid_2_ok {a1 : List D.Debt} {a2 : Int} {res : Bool} (h : g_slices_ContainsFunc_Valid_2 a1 a2 = some res) : SpecK Try.prog [] 41 [sl 4 cs_Debt a1, .fn 42 [.ptr 0 0]] [(0, ⟨55, 0, [.fn 40 [.ip [I a2]]]⟩)] 1 (B res) [(0, ⟨55, 0, [.fn 40 [.ip [I a2]]]⟩)] 1 := by
  refine ⟨spec_of_wp Try.func41 (by kernel_rfl) rfl Try.ntmps41 (by rw [Try.results41]) (leB rfl) ?_, by kernel_rfl, ⟨⟨leB rfl, by kernel_rfl⟩, trivial⟩, by kernel_rfl, ⟨⟨leB rfl, by kernel_rfl⟩, trivial⟩, by kernel_rfl⟩
  unfold g_slices_ContainsFunc_Valid_2 at h
  refine w_reg ⟨[(0, sl 4 cs_Debt a1), (1, .fn 42 [.ptr 0 0])], [(0, ⟨55, 0, [.fn 40 [.ip [I a2]]]⟩)], 1⟩ (by kernel_rfl) (leB rfl) ?_
  refine w_seq (fun K hK_1989 => w_reg0 ?_)
  refine dd_run 0 2 rfl (by kernel_rfl) ?_
  obtain ⟨x_1990, h_1991, h⟩ := bind_some' h
  refine dd_one 2 (.call ⟨.value (.func 52), #[(.tmp 5), (.tmp 6)], #[22, 58]⟩) (some 7) (by kernel_rfl) (o_callE [0] (g_slices_IndexFunc_Valid_2_ok h_1991) (by kernel_rfl) (by kernel_rfl) (by kernel_rfl) rfl) ?_
  refine ops_fin' hK_1989 ⟨[(4, B (decide (x_1990 ≥ 0)))], [(0, ⟨55, 0, [.fn 40 [.ip [I a2]]]⟩)], 1⟩ (by kernel_rfl) (leB rfl) ?_
  refine w_ret ?_
  obtain rfl := ((Option.some.inj h).symm).symm
  exact ret_leaf (.inl rfl) ⟨[(4, B (decide (x_1990 ≥ 0)))], [(0, ⟨55, 0, [.fn 40 [.ip [I a2]]]⟩)], 1⟩ (to_ren [] (leB rfl) (by kernel_rfl) (by kernel_rfl) (renE_of (by kernel_rfl) (by kernel_rfl)) ⟨reRn (by kernel_rfl) (leB rfl) (by kernel_rfl), trivial⟩) [B (decide (x_1990 ≥ 0))] (by kernel_rfl) (by kernel_rfl) (leB rfl) (by kernel_rfl) ⟨⟨by kernel_rfl, leB rfl, (by kernel_rfl)⟩, trivial⟩
/-- estoppel/netting.Valid -/
def g_netting_Valid (a1 : Int) (a2 : List D.Debt) : Option (Bool) :=
  if (decide (a1 ≥ 1)) = true then
  if (decide (a1 ≤ 12)) = true then
  if (decide ((a2.length : Int) ≤ 400)) = true then
  (g_slices_ContainsFunc_Valid_2 a2 a1).bind fun x_2009 =>
  some (!x_2009)
  else
  some false
  else
  some false
  else
  some false
set_option maxHeartbeats 4000000 in
theorem g_netting_Valid_ok {a1 : Int} {a2 : List D.Debt} {res : Bool} (h : g_netting_Valid a1 a2 = some res) : SpecK Try.prog [] 16 [I a1, sl 4 cs_Debt a2] [] 0 (B res) [] 0 := by
  refine ⟨spec_of_wp Try.func16 (by kernel_rfl) rfl Try.ntmps16 (by rw [Try.results16]) (leB rfl) ?_, by kernel_rfl, trivial, by kernel_rfl, trivial, by kernel_rfl⟩
  unfold g_netting_Valid at h
  refine w_reg ⟨[(1, sl 4 cs_Debt a2), (2, .ip [I a1])], [], 0⟩ (by kernel_rfl) (leB rfl) ?_
  refine w_reg ⟨[(1, sl 4 cs_Debt a2), (2, .ip [I a1]), (5, .ptr 0 0)], [(0, ⟨55, 0, [.fn 40 [.ip [I a1]]]⟩)], 1⟩ (by kernel_rfl) (leB rfl) ?_
  refine w_seq (fun K hK_2005 => w_reg0 ?_)
  refine dd_run 0 3 rfl (by kernel_rfl) ?_
  refine ite_both h (fun h_2006 h => ?_) (fun h_2006 h => ?_)
  · refine dd_runG 3 5 2 true rfl (b := (decide (a1 ≥ 1))) (by kernel_rfl) h_2006 (by kernel_rfl) ?_
    refine dd_one 5 (.pick (.tmp 9) (.tmp 11) (.const (.bool false))) (some 12) (by kernel_rfl) (o_pure (B (decide (a1 ≤ 12))) (ev_pickT h_2006 (by kernel_rfl) (by kernel_rfl)) rfl) ?_
    refine dd_run 6 7 rfl (by kernel_rfl) ?_
    refine ite_both h (fun h_2007 h => ?_) (fun h_2007 h => ?_)
    · refine dd_runG 7 8 6 true rfl (b := (decide (a1 ≤ 12))) (by kernel_rfl) h_2007 (by kernel_rfl) ?_
      refine dd_oneG 8 (.call ⟨.builtin .len, #[(.tmp 14)], #[22]⟩) (some 15) 6 true (b := (decide (a1 ≤ 12))) (by kernel_rfl) (by kernel_rfl) h_2007 (o_pure (I (a2.length : Int)) (ev_len_sl (e := 38) (ty := 0) (k := 4) (c := cs_Debt) (by kernel_rfl) (by kernel_rfl)) rfl) ?_
      refine dd_runG 9 10 6 true rfl (b := (decide (a1 ≤ 12))) (by kernel_rfl) h_2007 (by kernel_rfl) ?_
      refine dd_one 10 (.pick (.tmp 13) (.tmp 16) (.const (.bool false))) (some 17) (by kernel_rfl) (o_pure (B (decide ((a2.length : Int) ≤ 400))) (ev_pickT h_2007 (by kernel_rfl) (by kernel_rfl)) rfl) ?_
      refine dd_run 11 12 rfl (by kernel_rfl) ?_
      refine ite_both h (fun h_2008 h => ?_) (fun h_2008 h => ?_)
      · refine dd_runG 12 14 11 true rfl (b := (decide ((a2.length : Int) ≤ 400))) (by kernel_rfl) h_2008 (by kernel_rfl) ?_
        obtain ⟨x_2009, h_2010, h⟩ := bind_some' h
        refine dd_oneG 14 (.call ⟨.value (.func 41), #[(.tmp 19), (.tmp 20)], #[22, 58]⟩) (some 21) 11 true (b := (decide ((a2.length : Int) ≤ 400))) (by kernel_rfl) (by kernel_rfl) h_2008 (o_callE [0] (g_slices_ContainsFunc_Valid_2_ok h_2010) (by kernel_rfl) (by kernel_rfl) (by kernel_rfl) rfl) ?_
        refine dd_runG 15 16 11 true rfl (b := (decide ((a2.length : Int) ≤ 400))) (by kernel_rfl) h_2008 (by kernel_rfl) ?_
        refine dd_one 16 (.pick (.tmp 18) (.tmp 22) (.const (.bool false))) (some 23) (by kernel_rfl) (o_pure (B (!x_2009)) (ev_pickT h_2008 (by kernel_rfl) (by kernel_rfl)) rfl) ?_
        refine ops_fin' hK_2005 ⟨[(4, B (!x_2009))], [(0, ⟨55, 0, [.fn 40 [.ip [I a1]]]⟩)], 1⟩ (by kernel_rfl) (leB rfl) ?_
        refine w_ret ?_
        obtain rfl := ((Option.some.inj h).symm).symm
        exact ret_leaf (.inl rfl) ⟨[(4, B (!x_2009))], [], 0⟩ (to_ren [] (leB rfl) (by kernel_rfl) (by kernel_rfl) (renE_of (by kernel_rfl) (by kernel_rfl)) trivial) [B (!x_2009)] (by kernel_rfl) (by kernel_rfl) (leB rfl) (by kernel_rfl) trivial
      · refine dd_skip 12 16 11 true rfl (b := (decide ((a2.length : Int) ≤ 400))) (by kernel_rfl) h_2008 (by kernel_rfl) ?_
        refine dd_one 16 (.pick (.tmp 18) (.tmp 22) (.const (.bool false))) (some 23) (by kernel_rfl) (o_pure (B false) (ev_pickF h_2008 (by kernel_rfl) (by kernel_rfl)) rfl) ?_
        refine ops_fin' hK_2005 ⟨[(4, B false)], [(0, ⟨55, 0, [.fn 40 [.ip [I a1]]]⟩)], 1⟩ (by kernel_rfl) (leB rfl) ?_
        refine w_ret ?_
        obtain rfl := ((Option.some.inj h).symm).symm
        exact ret_leaf (.inl rfl) ⟨[(4, B false)], [], 0⟩ (to_ren [] (leB rfl) (by kernel_rfl) (by kernel_rfl) (renE_of (by kernel_rfl) (by kernel_rfl)) trivial) [B false] (by kernel_rfl) (by kernel_rfl) (leB rfl) (by kernel_rfl) trivial
    · refine dd_skip 7 10 6 true rfl (b := (decide (a1 ≤ 12))) (by kernel_rfl) h_2007 (by kernel_rfl) ?_
      refine dd_one 10 (.pick (.tmp 13) (.tmp 16) (.const (.bool false))) (some 17) (by kernel_rfl) (o_pure (B false) (ev_pickF h_2007 (by kernel_rfl) (by kernel_rfl)) rfl) ?_
      refine dd_run 11 12 rfl (by kernel_rfl) ?_
      refine dd_skip 12 16 11 true rfl (b := false) (by kernel_rfl) rfl (by kernel_rfl) ?_
      refine ops_fin' hK_2005 ⟨[(4, B false)], [(0, ⟨55, 0, [.fn 40 [.ip [I a1]]]⟩)], 1⟩ (by kernel_rfl) (leB rfl) ?_
      refine w_ret ?_
      obtain rfl := ((Option.some.inj h).symm).symm
      exact ret_leaf (.inl rfl) ⟨[(4, B false)], [], 0⟩ (to_ren [] (leB rfl) (by kernel_rfl) (by kernel_rfl) (renE_of (by kernel_rfl) (by kernel_rfl)) trivial) [B false] (by kernel_rfl) (by kernel_rfl) (leB rfl) (by kernel_rfl) trivial
  · refine dd_skip 3 5 2 true rfl (b := (decide (a1 ≥ 1))) (by kernel_rfl) h_2006 (by kernel_rfl) ?_
    refine dd_one 5 (.pick (.tmp 9) (.tmp 11) (.const (.bool false))) (some 12) (by kernel_rfl) (o_pure (B false) (ev_pickF h_2006 (by kernel_rfl) (by kernel_rfl)) rfl) ?_
    refine dd_run 6 7 rfl (by kernel_rfl) ?_
    refine dd_skip 7 10 6 true rfl (b := false) (by kernel_rfl) rfl (by kernel_rfl) ?_
    refine dd_run 10 12 rfl (by kernel_rfl) ?_
    refine dd_skip 12 16 11 true rfl (b := false) (by kernel_rfl) rfl (by kernel_rfl) ?_
    refine ops_fin' hK_2005 ⟨[(4, B false)], [(0, ⟨55, 0, [.fn 40 [.ip [I a1]]]⟩)], 1⟩ (by kernel_rfl) (leB rfl) ?_
    refine w_ret ?_
    obtain rfl := ((Option.some.inj h).symm).symm
    exact ret_leaf (.inl rfl) ⟨[(4, B false)], [], 0⟩ (to_ren [] (leB rfl) (by kernel_rfl) (by kernel_rfl) (renE_of (by kernel_rfl) (by kernel_rfl)) trivial) [B false] (by kernel_rfl) (by kernel_rfl) (leB rfl) (by kernel_rfl) trivial
/-- estoppel/netting.Positions$1 -/
def g_netting_Positions_1 (a1 : D.Debt) (a2 : Int) : Option (Int) :=
  if (a2 == a1.To) = true then
  some 1
  else
  if (a2 == a1.From) = true then
  some (-1)
  else
  some 0
set_option maxHeartbeats 4000000 in
theorem g_netting_Positions_1_ok {a1 : D.Debt} {a2 : Int} {res : Int} (h : g_netting_Positions_1 a1 a2 = some res) : SpecK Try.prog [] 27 [.agg (cs_Debt a1), .ptr 0 0] [(0, ⟨3, 0, [I a2]⟩)] 1 (I res) [(0, ⟨3, 0, [I a2]⟩)] 1 := by
  refine ⟨spec_of_wp Try.func27 (by kernel_rfl) rfl Try.ntmps27 (by rw [Try.results27]) (leB rfl) ?_, by kernel_rfl, ⟨⟨leB rfl, by kernel_rfl⟩, trivial⟩, by kernel_rfl, ⟨⟨leB rfl, by kernel_rfl⟩, trivial⟩, by kernel_rfl⟩
  unfold g_netting_Positions_1 at h
  refine w_reg ⟨[(1, .ptr 0 0), (2, .ip (cs_Debt a1))], [(0, ⟨3, 0, [I a2]⟩)], 1⟩ (by kernel_rfl) (leB rfl) ?_
  refine w_assoc ?_
  refine w_reg ⟨[(2, .ip (cs_Debt a1)), (4, I a2)], [(0, ⟨3, 0, [I a2]⟩)], 1⟩ (by kernel_rfl) (leB rfl) ?_
  refine w_seq (fun K hK_2057 => ?_)
  refine w_block ?_
  refine w_reg ⟨[(2, .ip (cs_Debt a1)), (4, I a2), (5, B (a2 == a1.To))], [(0, ⟨3, 0, [I a2]⟩)], 1⟩ (by kernel_rfl) (leB rfl) ?_
  refine w_ite h (by kernel_rfl) (fun h_2058 h => ?_) (fun h_2058 h => ?_)
  · refine w_reg ⟨[(3, I 1)], [(0, ⟨3, 0, [I a2]⟩)], 1⟩ (by kernel_rfl) (leB rfl) ?_
    refine w_ret ?_
    obtain rfl := ((Option.some.inj h).symm).symm
    exact ret_leaf (.inl rfl) ⟨[(3, I 1)], [(0, ⟨3, 0, [I a2]⟩)], 1⟩ (to_ren [] (leB rfl) (by kernel_rfl) (by kernel_rfl) (renE_of (by kernel_rfl) (by kernel_rfl)) ⟨reRn (by kernel_rfl) (leB rfl) (by kernel_rfl), trivial⟩) [I 1] (by kernel_rfl) (by kernel_rfl) (leB rfl) (by kernel_rfl) ⟨⟨by kernel_rfl, leB rfl, (by kernel_rfl)⟩, trivial⟩
  · refine w_reg ⟨[(9, B (a2 == a1.From))], [(0, ⟨3, 0, [I a2]⟩)], 1⟩ (by kernel_rfl) (leB rfl) ?_
    refine w_ite h (by kernel_rfl) (fun h_2059 h => ?_) (fun h_2059 h => ?_)
    · refine w_reg ⟨[(3, I (-1))], [(0, ⟨3, 0, [I a2]⟩)], 1⟩ (by kernel_rfl) (leB rfl) ?_
      refine w_ret ?_
      obtain rfl := ((Option.some.inj h).symm).symm
      exact ret_leaf (.inl rfl) ⟨[(3, I (-1))], [(0, ⟨3, 0, [I a2]⟩)], 1⟩ (to_ren [] (leB rfl) (by kernel_rfl) (by kernel_rfl) (renE_of (by kernel_rfl) (by kernel_rfl)) ⟨reRn (by kernel_rfl) (leB rfl) (by kernel_rfl), trivial⟩) [I (-1)] (by kernel_rfl) (by kernel_rfl) (leB rfl) (by kernel_rfl) ⟨⟨by kernel_rfl, leB rfl, (by kernel_rfl)⟩, trivial⟩
    · refine w_skip ?_
      refine hK_2057 _ ⟨[], [(0, ⟨3, 0, [I a2]⟩)], 1⟩ (to_trim (by kernel_rfl) (leB rfl)) ?_
      refine w_reg ⟨[(3, I 0)], [(0, ⟨3, 0, [I a2]⟩)], 1⟩ (by kernel_rfl) (leB rfl) ?_
      refine w_ret ?_
      obtain rfl := ((Option.some.inj h).symm).symm
      exact ret_leaf (.inl rfl) ⟨[(3, I 0)], [(0, ⟨3, 0, [I a2]⟩)], 1⟩ (to_ren [] (leB rfl) (by kernel_rfl) (by kernel_rfl) (renE_of (by kernel_rfl) (by kernel_rfl)) ⟨reRn (by kernel_rfl) (leB rfl) (by kernel_rfl), trivial⟩) [I 0] (by kernel_rfl) (by kernel_rfl) (leB rfl) (by kernel_rfl) ⟨⟨by kernel_rfl, leB rfl, (by kernel_rfl)⟩, trivial⟩
/-- estoppel/netting.sum -/
def g_netting_sum_Positions_1 (a1 : List D.Debt) (a2 : Int) : Option (D.Ratio × Int) :=
  bindF (ρ := D.Ratio) (
  loopO (σ := D.Ratio × Int × Int) (fun s_2813 =>
  if (decide (s_2813.2.2 < (a1.length : Int))) = true then
  (getI a1 s_2813.2.2).bind fun x_2861 =>
  (g_netting_Positions_1 x_2861 a2).bind fun x_2866 =>
  bindF (ρ := D.Ratio × Int) (
  if (x_2866 == 1) = true then
  (g_ratio_Add s_2813.1 x_2861.Amount).bind fun x_2878 =>
  some (.inl (x_2878.1, x_2878.2))
  else
  if (x_2866 == (-1)) = true then
  (g_ratio_Sub s_2813.1 x_2861.Amount).bind fun x_2881 =>
  some (.inl (x_2881.1, x_2881.2))
  else
  some (.inl (s_2813.1, s_2813.2.1))) (fun (e_2874 : D.Ratio × Int) =>
  if (e_2874.2 != 0) = true then
  some (.inr (.inr ((D.Ratio.mk 0 0), e_2874.2)))
  else
  some (.inl (e_2874.1, e_2874.2, (IntKind.i64.wrap (s_2813.2.2 + 1)))))
  else
  some (.inr (.inl s_2813.1))) ((D.Ratio.mk 0 1), 0, 0)) (fun (e_2672 : D.Ratio) =>
  some (e_2672, 0))
set_option maxHeartbeats 4000000 in
theorem g_netting_sum_Positions_1_ok {a1 : List D.Debt} {a2 : Int} {res : D.Ratio × Int} (h : g_netting_sum_Positions_1 a1 a2 = some res) : SpecK Try.prog [] 26 [sl 4 cs_Debt a1, .fn 27 [.ptr 0 0]] [(0, ⟨3, 0, [I a2]⟩)] 1 (.tup [.agg (cs_Ratio res.1), I res.2]) [(0, ⟨3, 0, [I a2]⟩)] 1 := by
  refine ⟨spec_of_wp Try.func26 (by kernel_rfl) rfl Try.ntmps26 (by rw [Try.results26]) (leB rfl) ?_, by kernel_rfl, ⟨⟨leB rfl, by kernel_rfl⟩, trivial⟩, by kernel_rfl, ⟨⟨leB rfl, by kernel_rfl⟩, trivial⟩, by kernel_rfl⟩
  unfold g_netting_sum_Positions_1 at h
  refine w_reg ⟨[(0, sl 4 cs_Debt a1), (1, .fn 27 [.ptr 0 0]), (4, .ptr 1 0)], [(1, ⟨34, 0, [I 0, I 0]⟩), (0, ⟨3, 0, [I a2]⟩)], 2⟩ (by kernel_rfl) (leB rfl) ?_
  refine w_reg ⟨[(0, sl 4 cs_Debt a1), (1, .fn 27 [.ptr 0 0]), (4, .ptr 1 0), (6, .ptr 2 0), (7, I 0)], [(2, ⟨34, 0, [I 0, I 1]⟩), (1, ⟨34, 0, [I 0, I 0]⟩), (0, ⟨3, 0, [I a2]⟩)], 3⟩ (by kernel_rfl) (leB rfl) ?_
  refine w_assoc ?_
  refine w_seq (fun K hK_2464 => w_reg0 ?_)
  refine dd_run 0 1 rfl (by kernel_rfl) ?_
  refine dd_one 1 (.call ⟨.builtin .len, #[(.tmp 11)], #[22]⟩) (some 12) (by kernel_rfl) (o_pure (I (a1.length : Int)) (ev_len_sl (e := 38) (ty := 0) (k := 4) (c := cs_Debt) (by kernel_rfl) (by kernel_rfl)) rfl) ?_
  refine ops_fin' hK_2464 ⟨[(1, .fn 27 [.ptr 0 0]), (4, .ptr 1 0), (6, .ptr 2 0), (7, I 0), (11, sl 4 cs_Debt a1), (12, I (a1.length : Int)), (13, I 0)], [(2, ⟨34, 0, [I 0, I 1]⟩), (1, ⟨34, 0, [I 0, I 0]⟩), (0, ⟨3, 0, [I a2]⟩)], 3⟩ (by kernel_rfl) (leB rfl) ?_
  refine w_cut h (fun (e_2672 : D.Ratio) => ⟨[(4, .ptr 1 0), (6, .ptr 2 0)], [(0, ⟨3, 0, [I a2]⟩), (1, ⟨34, 0, [I 0, I 0]⟩), (2, ⟨34, 0, (cs_Ratio e_2672)⟩)], 3⟩) (fun o h h_2673 K hK_2674 => ?_) (fun e_2672 h => ?_)
  · refine w_block ?_
    refine w_loopO h (fun (s_2813 : D.Ratio × Int × Int) => ⟨[(1, .fn 27 [.ptr 0 0]), (4, .ptr 1 0), (6, .ptr 2 0), (7, I s_2813.2.1), (11, sl 4 cs_Debt a1), (12, I (a1.length : Int)), (13, I s_2813.2.2)], [(0, ⟨3, 0, [I a2]⟩), (1, ⟨34, 0, [I 0, I 0]⟩), (2, ⟨34, 0, (cs_Ratio s_2813.1)⟩)], 3⟩) (to_ren [] (leB rfl) (by kernel_rfl) (by kernel_rfl) (renE_of (by kernel_rfl) (by kernel_rfl)) ⟨reRn (by kernel_rfl) (leB rfl) (by kernel_rfl), ⟨reRn (by kernel_rfl) (leB rfl) (by kernel_rfl), ⟨reRn (by kernel_rfl) (leB rfl) (by kernel_rfl), trivial⟩⟩⟩) (fun s_2813 o h h_2814 K hK_2815 => ?_)
    · refine w_reg ⟨[(1, .fn 27 [.ptr 0 0]), (4, .ptr 1 0), (6, .ptr 2 0), (7, I s_2813.2.1), (11, sl 4 cs_Debt a1), (12, I (a1.length : Int)), (13, I s_2813.2.2), (14, B (decide (s_2813.2.2 < (a1.length : Int))))], [(0, ⟨3, 0, [I a2]⟩), (1, ⟨34, 0, [I 0, I 0]⟩), (2, ⟨34, 0, (cs_Ratio s_2813.1)⟩)], 3⟩ (by kernel_rfl) (leB rfl) ?_
      refine w_seq (fun K hK_2817 => ?_)
      refine w_ite h (by kernel_rfl) (fun h_2818 h => ?_) (fun h_2818 h => ?_)
      · refine w_skip ?_
        refine hK_2817 _ ⟨[(1, .fn 27 [.ptr 0 0]), (4, .ptr 1 0), (6, .ptr 2 0), (7, I s_2813.2.1), (11, sl 4 cs_Debt a1), (12, I (a1.length : Int)), (13, I s_2813.2.2)], [(0, ⟨3, 0, [I a2]⟩), (1, ⟨34, 0, [I 0, I 0]⟩), (2, ⟨34, 0, (cs_Ratio s_2813.1)⟩)], 3⟩ (to_trim (by kernel_rfl) (leB rfl)) ?_
        refine w_seq (fun K hK_2851 => ?_)
        refine w_block ?_
        refine w_seq (fun K hK_2858 => w_reg0 ?_)
        obtain ⟨x_2861, h_2862, h⟩ := bind_some' h
        refine dd_one 0 (.indexAddr 22 (.tmp 11) (.tmp 13)) (some 15) (by kernel_rfl) (o_pure (.ip (cs_Debt x_2861)) (ev_idx_sl (e := 38) (k := 4) (c := cs_Debt) (ik := .i64) h_2862 (by kernel_rfl) (by kernel_rfl) (by kernel_rfl) (by kernel_rfl)) rfl) ?_
        refine ops_fin' hK_2858 ⟨[(1, .fn 27 [.ptr 0 0]), (4, .ptr 1 0), (6, .ptr 2 0), (7, I s_2813.2.1), (9, .ptr 3 0), (11, sl 4 cs_Debt a1), (12, I (a1.length : Int)), (13, I s_2813.2.2)], [(3, ⟨38, 0, (cs_Debt x_2861)⟩), (0, ⟨3, 0, [I a2]⟩), (1, ⟨34, 0, [I 0, I 0]⟩), (2, ⟨34, 0, (cs_Ratio s_2813.1)⟩)], 4⟩ (by kernel_rfl) (leB rfl) ?_
        refine w_assoc ?_
        refine w_seq (fun K hK_2865 => w_reg0 ?_)
        refine dd_run 0 2 rfl (by kernel_rfl) ?_
        obtain ⟨x_2866, h_2867, h⟩ := bind_some' h
        refine dd_one 2 (.call ⟨.value (.tmp 17), #[(.tmp 18)], #[38]⟩) (some 19) (by kernel_rfl) (o_callE [0] (g_netting_Positions_1_ok h_2867) (by kernel_rfl) (by kernel_rfl) (by kernel_rfl) rfl) ?_
        refine ops_fin' hK_2865 ⟨[(1, .fn 27 [.ptr 0 0]), (4, .ptr 1 0), (6, .ptr 2 0), (7, I s_2813.2.1), (9, .ptr 3 0), (11, sl 4 cs_Debt a1), (12, I (a1.length : Int)), (13, I s_2813.2.2), (19, I x_2866)], [(0, ⟨3, 0, [I a2]⟩), (3, ⟨38, 0, (cs_Debt x_2861)⟩), (1, ⟨34, 0, [I 0, I 0]⟩), (2, ⟨34, 0, (cs_Ratio s_2813.1)⟩)], 4⟩ (by kernel_rfl) (leB rfl) ?_
        refine w_cut h (fun (e_2874 : D.Ratio × Int) => ⟨[(1, .fn 27 [.ptr 0 0]), (4, .ptr 1 0), (6, .ptr 2 0), (7, I e_2874.2), (11, sl 4 cs_Debt a1), (12, I (a1.length : Int)), (13, I s_2813.2.2)], [(0, ⟨3, 0, [I a2]⟩), (1, ⟨34, 0, [I 0, I 0]⟩), (2, ⟨34, 0, (cs_Ratio e_2874.1)⟩)], 3⟩) (fun o h h_2875 K hK_2876 => ?_) (fun e_2874 h => ?_)
        · refine w_block ?_
          refine w_reg ⟨[(1, .fn 27 [.ptr 0 0]), (4, .ptr 1 0), (6, .ptr 2 0), (7, I s_2813.2.1), (9, .ptr 3 0), (11, sl 4 cs_Debt a1), (12, I (a1.length : Int)), (13, I s_2813.2.2), (19, I x_2866), (20, B (x_2866 == 1))], [(0, ⟨3, 0, [I a2]⟩), (3, ⟨38, 0, (cs_Debt x_2861)⟩), (1, ⟨34, 0, [I 0, I 0]⟩), (2, ⟨34, 0, (cs_Ratio s_2813.1)⟩)], 4⟩ (by kernel_rfl) (leB rfl) ?_
          refine w_ite h (by kernel_rfl) (fun h_2877 h => ?_) (fun h_2877 h => ?_)
          · refine w_reg0 ?_
            refine dd_run 0 3 rfl (by kernel_rfl) ?_
            obtain ⟨x_2878, h_2879, h⟩ := bind_some' h
            refine dd_one 3 (.call ⟨.value (.func 20), #[(.tmp 23), (.tmp 25)], #[34, 34]⟩) (some 26) (by kernel_rfl) (o_callP (g_ratio_Add_ok h_2879) (by kernel_rfl) rfl) ?_
            refine dd_run 4 9 rfl (by kernel_rfl) ?_
            refine dd_nil 9 rfl ?_
            exact hK_2876 _ _ (Option.some.inj h).symm (to_ren [] (leB rfl) (by kernel_rfl) (by kernel_rfl) (renE_of (by kernel_rfl) (by kernel_rfl)) ⟨reRn (by kernel_rfl) (leB rfl) (by kernel_rfl), ⟨reRn (by kernel_rfl) (leB rfl) (by kernel_rfl), ⟨reRn (by kernel_rfl) (leB rfl) (by kernel_rfl), trivial⟩⟩⟩)
          · refine w_reg ⟨[(1, .fn 27 [.ptr 0 0]), (4, .ptr 1 0), (6, .ptr 2 0), (7, I s_2813.2.1), (9, .ptr 3 0), (11, sl 4 cs_Debt a1), (12, I (a1.length : Int)), (13, I s_2813.2.2), (29, B (x_2866 == (-1)))], [(0, ⟨3, 0, [I a2]⟩), (3, ⟨38, 0, (cs_Debt x_2861)⟩), (1, ⟨34, 0, [I 0, I 0]⟩), (2, ⟨34, 0, (cs_Ratio s_2813.1)⟩)], 4⟩ (by kernel_rfl) (leB rfl) ?_
            refine w_ite h (by kernel_rfl) (fun h_2880 h => ?_) (fun h_2880 h => ?_)
            · refine w_reg0 ?_
              refine dd_run 0 3 rfl (by kernel_rfl) ?_
              obtain ⟨x_2881, h_2882, h⟩ := bind_some' h
              refine dd_one 3 (.call ⟨.value (.func 36), #[(.tmp 32), (.tmp 34)], #[34, 34]⟩) (some 35) (by kernel_rfl) (o_callP (g_ratio_Sub_ok h_2882) (by kernel_rfl) rfl) ?_
              refine dd_run 4 9 rfl (by kernel_rfl) ?_
              refine dd_nil 9 rfl ?_
              exact hK_2876 _ _ (Option.some.inj h).symm (to_ren [] (leB rfl) (by kernel_rfl) (by kernel_rfl) (renE_of (by kernel_rfl) (by kernel_rfl)) ⟨reRn (by kernel_rfl) (leB rfl) (by kernel_rfl), ⟨reRn (by kernel_rfl) (leB rfl) (by kernel_rfl), ⟨reRn (by kernel_rfl) (leB rfl) (by kernel_rfl), trivial⟩⟩⟩)
            · refine w_skip ?_
              exact hK_2876 _ _ (Option.some.inj h).symm (to_ren [] (leB rfl) (by kernel_rfl) (by kernel_rfl) (renE_of (by kernel_rfl) (by kernel_rfl)) ⟨reRn (by kernel_rfl) (leB rfl) (by kernel_rfl), ⟨reRn (by kernel_rfl) (leB rfl) (by kernel_rfl), ⟨reRn (by kernel_rfl) (leB rfl) (by kernel_rfl), trivial⟩⟩⟩)
        · refine w_reg ⟨[(1, .fn 27 [.ptr 0 0]), (4, .ptr 1 0), (6, .ptr 2 0), (7, I e_2874.2), (11, sl 4 cs_Debt a1), (12, I (a1.length : Int)), (13, I s_2813.2.2), (39, B (e_2874.2 != 0))], [(0, ⟨3, 0, [I a2]⟩), (1, ⟨34, 0, [I 0, I 0]⟩), (2, ⟨34, 0, (cs_Ratio e_2874.1)⟩)], 3⟩ (by kernel_rfl) (leB rfl) ?_
          refine w_ite h (by kernel_rfl) (fun h_2883 h => ?_) (fun h_2883 h => ?_)
          · refine w_reg ⟨[(4, .ptr 1 0), (5, I e_2874.2)], [(0, ⟨3, 0, [I a2]⟩), (1, ⟨34, 0, [I 0, I 0]⟩), (2, ⟨34, 0, (cs_Ratio e_2874.1)⟩)], 3⟩ (by kernel_rfl) (leB rfl) ?_
            refine w_ret ?_
            obtain rfl := ((h_2673 _ (h_2814 _ (Option.some.inj h).symm).symm).symm).symm
            exact ret_leaf (.inl rfl) ⟨[(4, .ptr 1 0), (5, I e_2874.2)], [(0, ⟨3, 0, [I a2]⟩), (1, ⟨34, 0, (cs_Ratio (D.Ratio.mk 0 0))⟩)], 2⟩ (to_ren [] (leB rfl) (by kernel_rfl) (by kernel_rfl) (renE_of (by kernel_rfl) (by kernel_rfl)) ⟨reRn (by kernel_rfl) (leB rfl) (by kernel_rfl), ⟨reRn (by kernel_rfl) (leB rfl) (by kernel_rfl), trivial⟩⟩) [.agg (cs_Ratio (D.Ratio.mk 0 0)), I e_2874.2] (by kernel_rfl) (by kernel_rfl) (leB rfl) (by kernel_rfl) ⟨⟨by kernel_rfl, leB rfl, (by kernel_rfl)⟩, trivial⟩
          · refine w_skip ?_
            refine hK_2851 _ ⟨[(1, .fn 27 [.ptr 0 0]), (4, .ptr 1 0), (6, .ptr 2 0), (7, I e_2874.2), (11, sl 4 cs_Debt a1), (12, I (a1.length : Int)), (13, I s_2813.2.2)], [(0, ⟨3, 0, [I a2]⟩), (1, ⟨34, 0, [I 0, I 0]⟩), (2, ⟨34, 0, (cs_Ratio e_2874.1)⟩)], 3⟩ (to_trim (by kernel_rfl) (leB rfl)) ?_
            refine w_reg0 ?_
            refine dd_run 0 2 rfl (by kernel_rfl) ?_
            refine dd_nil 2 rfl ?_
            exact hK_2815 _ _ (Option.some.inj h).symm (to_ren [] (leB rfl) (by kernel_rfl) (by kernel_rfl) (renE_of (by kernel_rfl) (by kernel_rfl)) ⟨reRn (by kernel_rfl) (leB rfl) (by kernel_rfl), ⟨reRn (by kernel_rfl) (leB rfl) (by kernel_rfl), ⟨reRn (by kernel_rfl) (leB rfl) (by kernel_rfl), trivial⟩⟩⟩)
      · refine w_exit ?_
        exact hK_2674 _ _ (h_2814 _ (Option.some.inj h).symm).symm (to_ren [] (leB rfl) (by kernel_rfl) (by kernel_rfl) (renE_of (by kernel_rfl) (by kernel_rfl)) ⟨reRn (by kernel_rfl) (leB rfl) (by kernel_rfl), ⟨reRn (by kernel_rfl) (leB rfl) (by kernel_rfl), ⟨reRn (by kernel_rfl) (leB rfl) (by kernel_rfl), trivial⟩⟩⟩)
  · refine w_reg ⟨[(4, .ptr 1 0), (5, I 0)], [(0, ⟨3, 0, [I a2]⟩), (1, ⟨34, 0, (cs_Ratio e_2672)⟩), (2, ⟨34, 0, (cs_Ratio e_2672)⟩)], 3⟩ (by kernel_rfl) (leB rfl) ?_
    refine w_ret ?_
    obtain rfl := ((Option.some.inj h).symm).symm
    exact ret_leaf (.inl rfl) ⟨[(4, .ptr 1 0), (5, I 0)], [(0, ⟨3, 0, [I a2]⟩), (1, ⟨34, 0, (cs_Ratio e_2672)⟩)], 2⟩ (to_ren [] (leB rfl) (by kernel_rfl) (by kernel_rfl) (renE_of (by kernel_rfl) (by kernel_rfl)) ⟨reRn (by kernel_rfl) (leB rfl) (by kernel_rfl), ⟨reRn (by kernel_rfl) (leB rfl) (by kernel_rfl), trivial⟩⟩) [.agg (cs_Ratio e_2672), I 0] (by kernel_rfl) (by kernel_rfl) (leB rfl) (by kernel_rfl) ⟨⟨by kernel_rfl, leB rfl, (by kernel_rfl)⟩, trivial⟩
/-- estoppel/netting.Positions -/
def g_netting_Positions (a1 : Int) (a2 : List D.Debt) : Option (List D.Ratio × Int) :=
  (g_netting_Valid a1 a2).bind fun x_3062 =>
  if (!x_3062) = true then
  some ([], 1)
  else
  (makeO 16 (D.Ratio.mk 0 0) a1 a1).bind fun x_3076 =>
  bindF (ρ := List D.Ratio) (
  loopO (σ := List D.Ratio × Int) (fun s_3226 =>
  if (decide (s_3226.2 < (x_3076.length : Int))) = true then
  (g_netting_sum_Positions_1 a2 s_3226.2).bind fun x_3248 =>
  if (x_3248.2 != 0) = true then
  some (.inr (.inr ([], x_3248.2)))
  else
  (getI s_3226.1 s_3226.2).bind fun x_3255 =>
  some (.inl ((setI s_3226.1 s_3226.2 x_3248.1), (IntKind.i64.wrap (s_3226.2 + 1))))
  else
  some (.inr (.inl s_3226.1))) (x_3076, 0)) (fun (e_3165 : List D.Ratio) =>
  some (e_3165, 0))
set_option maxHeartbeats 4000000 in
theorem g_netting_Positions_ok {a1 : Int} {a2 : List D.Debt} {res : List D.Ratio × Int} (h : g_netting_Positions a1 a2 = some res) : SpecK Try.prog [] 10 [I a1, sl 4 cs_Debt a2] [] 0 (.tup [sl 2 cs_Ratio res.1, I res.2]) [] 0 := by
  refine ⟨spec_of_wp Try.func10 (by kernel_rfl) rfl Try.ntmps10 (by rw [Try.results10]) (leB rfl) ?_, by kernel_rfl, trivial, by kernel_rfl, trivial, by kernel_rfl⟩
  unfold g_netting_Positions at h
  refine w_reg ⟨[(0, I a1), (1, sl 4 cs_Debt a2)], [], 0⟩ (by kernel_rfl) (leB rfl) ?_
  refine w_assoc ?_
  refine w_seq (fun K hK_3061 => w_reg0 ?_)
  refine dd_run 0 2 rfl (by kernel_rfl) ?_
  obtain ⟨x_3062, h_3063, h⟩ := bind_some' h
  refine dd_one 2 (.call ⟨.value (.func 16), #[(.tmp 10), (.tmp 11)], #[3, 22]⟩) (some 12) (by kernel_rfl) (o_callP (g_netting_Valid_ok h_3063) (by kernel_rfl) rfl) ?_
  refine ops_fin' hK_3061 ⟨[(0, I a1), (1, sl 4 cs_Debt a2), (13, B (!x_3062))], [], 0⟩ (by kernel_rfl) (leB rfl) ?_
  refine w_seq (fun K hK_3065 => ?_)
  refine w_ite h (by kernel_rfl) (fun h_3066 h => ?_) (fun h_3066 h => ?_)
  · refine w_reg ⟨[(4, Nl), (5, I 1)], [], 0⟩ (by kernel_rfl) (leB rfl) ?_
    refine w_ret ?_
    obtain rfl := ((Option.some.inj h).symm).symm
    exact ret_leaf (.inl rfl) ⟨[(4, sl 2 cs_Ratio []), (5, I 1)], [], 0⟩ (to_trans (to_put 4 (leB rfl) (by kernel_rfl) (Sub.nil 2)) (to_ren [] (leB rfl) (by kernel_rfl) (by kernel_rfl) (renE_of (by kernel_rfl) (by kernel_rfl)) trivial)) [sl 2 cs_Ratio [], I 1] (by kernel_rfl) (by kernel_rfl) (leB rfl) (by kernel_rfl) trivial
  · refine w_skip ?_
    refine hK_3065 _ ⟨[(0, I a1), (1, sl 4 cs_Debt a2)], [], 0⟩ (to_trim (by kernel_rfl) (leB rfl)) ?_
    refine w_seq (fun K hK_3073 => w_reg0 ?_)
    refine dd_run 0 1 rfl (by kernel_rfl) ?_
    obtain ⟨x_3076, h_3077, h⟩ := bind_some' h
    refine dd_one 1 (.makeSlice 24 (.tmp 14) (.tmp 14)) (some 15) (by kernel_rfl) (o_heap (.own 0 x_3076.length) [(0, ⟨34, 2, flat cs_Ratio x_3076⟩)] 1 (by kernel_rfl) (hv_make (e := 34) (k := 2) (c := cs_Ratio) (ik := .i64) (jk := .i64) h_3077 (by kernel_rfl) (by kernel_rfl) (by kernel_rfl) (by kernel_rfl) (leB rfl) rfl (by kernel_rfl) (by kernel_rfl)) rfl) ?_
    refine ops_fin' hK_3073 ⟨[(1, sl 4 cs_Debt a2), (6, .own 0 x_3076.length)], [(0, ⟨34, 2, flat cs_Ratio x_3076⟩)], 1⟩ (by kernel_rfl) (leB rfl) ?_
    refine w_assoc ?_
    refine w_reg ⟨[(1, sl 4 cs_Debt a2), (6, .own 0 x_3076.length), (17, I (x_3076.length : Int)), (18, I 0)], [(0, ⟨34, 2, flat cs_Ratio x_3076⟩)], 1⟩ (by kernel_rfl) (leB rfl) ?_
    refine w_cut h (fun (e_3165 : List D.Ratio) => ⟨[(6, sl 2 cs_Ratio e_3165)], [], 0⟩) (fun o h h_3166 K hK_3167 => ?_) (fun e_3165 h => ?_)
    · refine w_block ?_
      refine w_loopO h (fun (s_3226 : List D.Ratio × Int) => ⟨[(1, sl 4 cs_Debt a2), (6, .own 0 s_3226.1.length), (17, I (x_3076.length : Int)), (18, I s_3226.2)], [(0, ⟨34, 2, flat cs_Ratio s_3226.1⟩)], 1⟩) (to_ren [] (leB rfl) (by kernel_rfl) (by kernel_rfl) (renE_of (by kernel_rfl) (by kernel_rfl)) ⟨rePl (by kernel_rfl) (leB rfl) (flat_all _ (fun _ => rfl) _), trivial⟩) (fun s_3226 o h h_3227 K hK_3228 => ?_)
      · refine w_reg ⟨[(1, sl 4 cs_Debt a2), (6, .own 0 s_3226.1.length), (17, I (x_3076.length : Int)), (18, I s_3226.2), (19, B (decide (s_3226.2 < (x_3076.length : Int))))], [(0, ⟨34, 2, flat cs_Ratio s_3226.1⟩)], 1⟩ (by kernel_rfl) (leB rfl) ?_
        refine w_seq (fun K hK_3230 => ?_)
        refine w_ite h (by kernel_rfl) (fun h_3231 h => ?_) (fun h_3231 h => ?_)
        · refine w_skip ?_
          refine hK_3230 _ ⟨[(1, sl 4 cs_Debt a2), (6, .own 0 s_3226.1.length), (17, I (x_3076.length : Int)), (18, I s_3226.2)], [(0, ⟨34, 2, flat cs_Ratio s_3226.1⟩)], 1⟩ (to_trim (by kernel_rfl) (leB rfl)) ?_
          refine w_seq (fun K hK_3244 => ?_)
          refine w_block ?_
          refine w_reg ⟨[(1, sl 4 cs_Debt a2), (6, .own 0 s_3226.1.length), (7, .ptr 1 0), (17, I (x_3076.length : Int)), (18, I s_3226.2)], [(1, ⟨3, 0, [I s_3226.2]⟩), (0, ⟨34, 2, flat cs_Ratio s_3226.1⟩)], 2⟩ (by kernel_rfl) (leB rfl) ?_
          refine w_seq (fun K hK_3247 => w_reg0 ?_)
          refine dd_run 0 2 rfl (by kernel_rfl) ?_
          obtain ⟨x_3248, h_3249, h⟩ := bind_some' h
          refine dd_one 2 (.call ⟨.value (.func 26), #[(.tmp 22), (.tmp 23)], #[22, 45]⟩) (some 24) (by kernel_rfl) (o_callE [1] (g_netting_sum_Positions_1_ok h_3249) (by kernel_rfl) (by kernel_rfl) (by kernel_rfl) rfl) ?_
          refine ops_fin' hK_3247 ⟨[(1, sl 4 cs_Debt a2), (6, .own 0 s_3226.1.length), (7, .ptr 1 0), (8, .ptr 2 0), (9, I x_3248.2), (17, I (x_3076.length : Int)), (18, I s_3226.2)], [(2, ⟨34, 0, (cs_Ratio x_3248.1)⟩), (1, ⟨3, 0, [I s_3226.2]⟩), (0, ⟨34, 2, flat cs_Ratio s_3226.1⟩)], 3⟩ (by kernel_rfl) (leB rfl) ?_
          refine w_assoc ?_
          refine w_reg ⟨[(1, sl 4 cs_Debt a2), (6, .own 0 s_3226.1.length), (7, .ptr 1 0), (8, .ptr 2 0), (9, I x_3248.2), (17, I (x_3076.length : Int)), (18, I s_3226.2), (28, B (x_3248.2 != 0))], [(2, ⟨34, 0, (cs_Ratio x_3248.1)⟩), (1, ⟨3, 0, [I s_3226.2]⟩), (0, ⟨34, 2, flat cs_Ratio s_3226.1⟩)], 3⟩ (by kernel_rfl) (leB rfl) ?_
          refine w_seq (fun K hK_3251 => ?_)
          refine w_ite h (by kernel_rfl) (fun h_3252 h => ?_) (fun h_3252 h => ?_)
          · refine w_reg ⟨[(4, Nl), (5, I x_3248.2)], [(2, ⟨34, 0, (cs_Ratio x_3248.1)⟩), (1, ⟨3, 0, [I s_3226.2]⟩), (0, ⟨34, 2, flat cs_Ratio s_3226.1⟩)], 3⟩ (by kernel_rfl) (leB rfl) ?_
            refine w_ret ?_
            obtain rfl := ((h_3166 _ (h_3227 _ (Option.some.inj h).symm).symm).symm).symm
            exact ret_leaf (.inl rfl) ⟨[(4, sl 2 cs_Ratio []), (5, I x_3248.2)], [], 0⟩ (to_trans (to_put 4 (leB rfl) (by kernel_rfl) (Sub.nil 2)) (to_ren [] (leB rfl) (by kernel_rfl) (by kernel_rfl) (renE_of (by kernel_rfl) (by kernel_rfl)) trivial)) [sl 2 cs_Ratio [], I x_3248.2] (by kernel_rfl) (by kernel_rfl) (leB rfl) (by kernel_rfl) trivial
          · refine w_skip ?_
            refine hK_3251 _ ⟨[(1, sl 4 cs_Debt a2), (6, .own 0 s_3226.1.length), (7, .ptr 1 0), (8, .ptr 2 0), (17, I (x_3076.length : Int)), (18, I s_3226.2)], [(2, ⟨34, 0, (cs_Ratio x_3248.1)⟩), (1, ⟨3, 0, [I s_3226.2]⟩), (0, ⟨34, 2, flat cs_Ratio s_3226.1⟩)], 3⟩ (to_trim (by kernel_rfl) (leB rfl)) ?_
            refine w_reg0 ?_
            refine dd_run 0 3 rfl (by kernel_rfl) ?_
            obtain ⟨x_3255, h_3256, h⟩ := bind_some' h
            refine dd_one 3 (.indexAddr 24 (.tmp 30) (.tmp 31)) (some 33) (by kernel_rfl) (o_pure (.ptr 0 (s_3226.2.toNat * 2)) (ev_idx_own (N := s_3226.1.length) (e := 34) (k := 2) (ik := .i64) h_3256 rfl (by kernel_rfl) (by kernel_rfl) (by kernel_rfl) (by kernel_rfl)) rfl) ?_
            refine dd_one 4 (.store 34 (.tmp 33) (.tmp 32)) none (by kernel_rfl) (o_heap (U) [(2, ⟨34, 0, (cs_Ratio x_3248.1)⟩), (1, ⟨3, 0, [I s_3226.2]⟩), (0, ⟨34, 2, flat cs_Ratio (setI s_3226.1 s_3226.2 x_3248.1)⟩)] 3 (by kernel_rfl) (hv_store_row (o := s_3226.2.toNat * 2) (b := 0) (y := .agg (cs_Ratio x_3248.1)) (i := s_3226.2.toNat) (j := 0) (k := 2) (s := 2) (c := cs_Ratio) (a' := x_3248.1) (sz := 2) (ty := 34) (fun _ => rfl) (getI_some h_3256).2 rfl (by kernel_rfl) (by kernel_rfl) (by kernel_rfl) (by kernel_rfl) (by kernel_rfl) (by kernel_rfl) (leB rfl) (by kernel_rfl)) rfl) ?_
            refine dd_nil 5 rfl ?_
            refine hK_3244 _ ⟨[(1, sl 4 cs_Debt a2), (6, .own 0 s_3226.1.length), (17, I (x_3076.length : Int)), (18, I s_3226.2)], [(2, ⟨34, 0, (cs_Ratio x_3248.1)⟩), (1, ⟨3, 0, [I s_3226.2]⟩), (0, ⟨34, 2, flat cs_Ratio (setI s_3226.1 s_3226.2 x_3248.1)⟩)], 3⟩ (to_trim (by kernel_rfl) (leB rfl)) ?_
            refine w_reg0 ?_
            refine dd_run 0 2 rfl (by kernel_rfl) ?_
            refine dd_nil 2 rfl ?_
            exact hK_3228 _ _ (Option.some.inj h).symm (to_trans (to_put 6 (leB rfl) (by kernel_rfl) (Sub.of_eq (show AV.own 0 s_3226.1.length = AV.own 0 (setI s_3226.1 s_3226.2 x_3248.1).length by simp [setI]))) (to_ren [] (leB rfl) (by kernel_rfl) (by kernel_rfl) (renE_of (by kernel_rfl) (by kernel_rfl)) ⟨rePl (by kernel_rfl) (leB rfl) (flat_all _ (fun _ => rfl) _), trivial⟩))
        · refine w_exit ?_
          exact hK_3167 _ _ (h_3227 _ (Option.some.inj h).symm).symm (to_trans (to_frz 6 0 s_3226.1.length s_3226.1 34 (k := 2) (c := cs_Ratio) (leB rfl) (by kernel_rfl) (by kernel_rfl) (leB rfl) rfl (fun _ => rfl) (fun _ => rfl) (fun _ => rfl)) (to_ren [] (leB rfl) (by kernel_rfl) (by kernel_rfl) (renE_of (by kernel_rfl) (by kernel_rfl)) trivial))
    · refine w_reg ⟨[(4, sl 2 cs_Ratio e_3165), (5, I 0)], [], 0⟩ (by kernel_rfl) (leB rfl) ?_
      refine w_ret ?_
      obtain rfl := ((Option.some.inj h).symm).symm
      exact ret_leaf (.inl rfl) ⟨[(4, sl 2 cs_Ratio e_3165), (5, I 0)], [], 0⟩ (to_ren [] (leB rfl) (by kernel_rfl) (by kernel_rfl) (renE_of (by kernel_rfl) (by kernel_rfl)) trivial) [sl 2 cs_Ratio e_3165, I 0] (by kernel_rfl) (by kernel_rfl) (leB rfl) (by kernel_rfl) trivial
end Go.Proofs.Ytgggekjhfdkgkaa.Ab
