/- Functions of the program as plain functions (printed by wip/dec.py). -/
import Derived.Test.YtgggekjhfdkgkaaDx1
namespace Go.Proofs.Ytgggekjhfdkgkaa.Ab
open Go Go.RowKit Go.Shelf
/-- estoppel/netting.Pairs$1 -/
def g_netting_Pairs_1 (a1 : D.Debt) (a2 : Int) (a3 : Int) : Option (Int) :=
  bindF (ρ := Bool) (
  if (a1.From == a2) = true then
  some (.inl (a1.To == a3))
  else
  some (.inl false)) (fun (e_3328 : Bool) =>
  if e_3328 = true then
  some 1
  else
  bindF (ρ := Bool) (
  if (a1.From == a3) = true then
  some (.inl (a1.To == a2))
  else
  some (.inl false)) (fun (e_3334 : Bool) =>
  if e_3334 = true then
  some (-1)
  else
  some 0))
set_option maxHeartbeats 4000000 in
theorem g_netting_Pairs_1_ok {a1 : D.Debt} {a2 : Int} {a3 : Int} {res : Int} (h : g_netting_Pairs_1 a1 a2 a3 = some res) : SpecK Try.prog [] 29 [.agg (cs_Debt a1), .ptr 0 0, .ptr 1 0] [(0, ⟨3, 0, [I a2]⟩), (1, ⟨3, 0, [I a3]⟩)] 2 (I res) [(0, ⟨3, 0, [I a2]⟩), (1, ⟨3, 0, [I a3]⟩)] 2 := by
  refine ⟨spec_of_wp Try.func29 (by kernel_rfl) rfl Try.ntmps29 (by rw [Try.results29]) (leB rfl) ?_, by kernel_rfl, ⟨⟨leB rfl, by kernel_rfl⟩, ⟨⟨leB rfl, by kernel_rfl⟩, trivial⟩⟩, by kernel_rfl, ⟨⟨leB rfl, by kernel_rfl⟩, ⟨⟨leB rfl, by kernel_rfl⟩, trivial⟩⟩, by kernel_rfl⟩
  unfold g_netting_Pairs_1 at h
  refine w_reg ⟨[(1, .ptr 0 0), (2, .ptr 1 0), (3, .ip (cs_Debt a1))], [(0, ⟨3, 0, [I a2]⟩), (1, ⟨3, 0, [I a3]⟩)], 2⟩ (by kernel_rfl) (leB rfl) ?_
  refine w_seq (fun K hK_3326 => ?_)
  refine w_block ?_
  refine w_cut h (fun (e_3328 : Bool) => ⟨[(1, .ptr 0 0), (2, .ptr 1 0), (3, .ip (cs_Debt a1)), (5, B e_3328)], [(0, ⟨3, 0, [I a2]⟩), (1, ⟨3, 0, [I a3]⟩)], 2⟩) (fun o h h_3329 K hK_3330 => ?_) (fun e_3328 h => ?_)
  · refine w_reg0 ?_
    refine dd_run 0 5 rfl (by kernel_rfl) ?_
    refine ite_both h (fun h_3331 h => ?_) (fun h_3331 h => ?_)
    · refine dd_runG 5 9 4 true rfl (b := (a1.From == a2)) (by kernel_rfl) h_3331 (by kernel_rfl) ?_
      refine dd_one 9 (.pick (.tmp 10) (.tmp 14) (.const (.bool false))) (some 15) (by kernel_rfl) (o_pure (B (a1.To == a3)) (ev_pickT h_3331 (by kernel_rfl) (by kernel_rfl)) rfl) ?_
      refine dd_run 10 11 rfl (by kernel_rfl) ?_
      refine dd_nil 11 rfl ?_
      exact hK_3330 _ _ (Option.some.inj h).symm (to_ren [] (leB rfl) (by kernel_rfl) (by kernel_rfl) (renE_of (by kernel_rfl) (by kernel_rfl)) ⟨reRn (by kernel_rfl) (leB rfl) (by kernel_rfl), ⟨reRn (by kernel_rfl) (leB rfl) (by kernel_rfl), trivial⟩⟩)
    · refine dd_skip 5 9 4 true rfl (b := (a1.From == a2)) (by kernel_rfl) h_3331 (by kernel_rfl) ?_
      refine dd_one 9 (.pick (.tmp 10) (.tmp 14) (.const (.bool false))) (some 15) (by kernel_rfl) (o_pure (B false) (ev_pickF h_3331 (by kernel_rfl) (by kernel_rfl)) rfl) ?_
      refine dd_run 10 11 rfl (by kernel_rfl) ?_
      refine dd_nil 11 rfl ?_
      exact hK_3330 _ _ (Option.some.inj h).symm (to_ren [] (leB rfl) (by kernel_rfl) (by kernel_rfl) (renE_of (by kernel_rfl) (by kernel_rfl)) ⟨reRn (by kernel_rfl) (leB rfl) (by kernel_rfl), ⟨reRn (by kernel_rfl) (leB rfl) (by kernel_rfl), trivial⟩⟩)
  · refine w_ite h (by kernel_rfl) (fun h_3332 h => ?_) (fun h_3332 h => ?_)
    · refine w_reg ⟨[(4, I 1)], [(0, ⟨3, 0, [I a2]⟩), (1, ⟨3, 0, [I a3]⟩)], 2⟩ (by kernel_rfl) (leB rfl) ?_
      refine w_ret ?_
      obtain rfl := ((Option.some.inj h).symm).symm
      exact ret_leaf (.inl rfl) ⟨[(4, I 1)], [(0, ⟨3, 0, [I a2]⟩), (1, ⟨3, 0, [I a3]⟩)], 2⟩ (to_ren [] (leB rfl) (by kernel_rfl) (by kernel_rfl) (renE_of (by kernel_rfl) (by kernel_rfl)) ⟨reRn (by kernel_rfl) (leB rfl) (by kernel_rfl), ⟨reRn (by kernel_rfl) (leB rfl) (by kernel_rfl), trivial⟩⟩) [I 1] (by kernel_rfl) (by kernel_rfl) (leB rfl) (by kernel_rfl) ⟨⟨by kernel_rfl, leB rfl, (by kernel_rfl)⟩, ⟨⟨by kernel_rfl, leB rfl, (by kernel_rfl)⟩, trivial⟩⟩
    · refine w_cut h (fun (e_3334 : Bool) => ⟨[(16, B e_3334)], [(0, ⟨3, 0, [I a2]⟩), (1, ⟨3, 0, [I a3]⟩)], 2⟩) (fun o h h_3335 K hK_3336 => ?_) (fun e_3334 h => ?_)
      · refine w_reg0 ?_
        refine dd_run 0 5 rfl (by kernel_rfl) ?_
        refine ite_both h (fun h_3337 h => ?_) (fun h_3337 h => ?_)
        · refine dd_runG 5 9 4 true rfl (b := (a1.From == a3)) (by kernel_rfl) h_3337 (by kernel_rfl) ?_
          refine dd_one 9 (.pick (.tmp 21) (.tmp 25) (.const (.bool false))) (some 26) (by kernel_rfl) (o_pure (B (a1.To == a2)) (ev_pickT h_3337 (by kernel_rfl) (by kernel_rfl)) rfl) ?_
          refine dd_run 10 11 rfl (by kernel_rfl) ?_
          refine dd_nil 11 rfl ?_
          exact hK_3336 _ _ (Option.some.inj h).symm (to_ren [] (leB rfl) (by kernel_rfl) (by kernel_rfl) (renE_of (by kernel_rfl) (by kernel_rfl)) ⟨reRn (by kernel_rfl) (leB rfl) (by kernel_rfl), ⟨reRn (by kernel_rfl) (leB rfl) (by kernel_rfl), trivial⟩⟩)
        · refine dd_skip 5 9 4 true rfl (b := (a1.From == a3)) (by kernel_rfl) h_3337 (by kernel_rfl) ?_
          refine dd_one 9 (.pick (.tmp 21) (.tmp 25) (.const (.bool false))) (some 26) (by kernel_rfl) (o_pure (B false) (ev_pickF h_3337 (by kernel_rfl) (by kernel_rfl)) rfl) ?_
          refine dd_run 10 11 rfl (by kernel_rfl) ?_
          refine dd_nil 11 rfl ?_
          exact hK_3336 _ _ (Option.some.inj h).symm (to_ren [] (leB rfl) (by kernel_rfl) (by kernel_rfl) (renE_of (by kernel_rfl) (by kernel_rfl)) ⟨reRn (by kernel_rfl) (leB rfl) (by kernel_rfl), ⟨reRn (by kernel_rfl) (leB rfl) (by kernel_rfl), trivial⟩⟩)
      · refine w_ite h (by kernel_rfl) (fun h_3338 h => ?_) (fun h_3338 h => ?_)
        · refine w_reg ⟨[(4, I (-1))], [(0, ⟨3, 0, [I a2]⟩), (1, ⟨3, 0, [I a3]⟩)], 2⟩ (by kernel_rfl) (leB rfl) ?_
          refine w_ret ?_
          obtain rfl := ((Option.some.inj h).symm).symm
          exact ret_leaf (.inl rfl) ⟨[(4, I (-1))], [(0, ⟨3, 0, [I a2]⟩), (1, ⟨3, 0, [I a3]⟩)], 2⟩ (to_ren [] (leB rfl) (by kernel_rfl) (by kernel_rfl) (renE_of (by kernel_rfl) (by kernel_rfl)) ⟨reRn (by kernel_rfl) (leB rfl) (by kernel_rfl), ⟨reRn (by kernel_rfl) (leB rfl) (by kernel_rfl), trivial⟩⟩) [I (-1)] (by kernel_rfl) (by kernel_rfl) (leB rfl) (by kernel_rfl) ⟨⟨by kernel_rfl, leB rfl, (by kernel_rfl)⟩, ⟨⟨by kernel_rfl, leB rfl, (by kernel_rfl)⟩, trivial⟩⟩
        · refine w_skip ?_
          refine hK_3326 _ ⟨[], [(0, ⟨3, 0, [I a2]⟩), (1, ⟨3, 0, [I a3]⟩)], 2⟩ (to_trim (by kernel_rfl) (leB rfl)) ?_
          refine w_reg ⟨[(4, I 0)], [(0, ⟨3, 0, [I a2]⟩), (1, ⟨3, 0, [I a3]⟩)], 2⟩ (by kernel_rfl) (leB rfl) ?_
          refine w_ret ?_
          obtain rfl := ((Option.some.inj h).symm).symm
          exact ret_leaf (.inl rfl) ⟨[(4, I 0)], [(0, ⟨3, 0, [I a2]⟩), (1, ⟨3, 0, [I a3]⟩)], 2⟩ (to_ren [] (leB rfl) (by kernel_rfl) (by kernel_rfl) (renE_of (by kernel_rfl) (by kernel_rfl)) ⟨reRn (by kernel_rfl) (leB rfl) (by kernel_rfl), ⟨reRn (by kernel_rfl) (leB rfl) (by kernel_rfl), trivial⟩⟩) [I 0] (by kernel_rfl) (by kernel_rfl) (leB rfl) (by kernel_rfl) ⟨⟨by kernel_rfl, leB rfl, (by kernel_rfl)⟩, ⟨⟨by kernel_rfl, leB rfl, (by kernel_rfl)⟩, trivial⟩⟩
/-- estoppel/netting.sum -/
def g_netting_sum_Pairs_1 (a1 : List D.Debt) (a2 : Int) (a3 : Int) : Option (D.Ratio × Int) :=
  bindF (ρ := D.Ratio) (
  loopO (σ := D.Ratio × Int × Int) (fun s_4092 =>
  if (decide (s_4092.2.2 < (a1.length : Int))) = true then
  (getI a1 s_4092.2.2).bind fun x_4140 =>
  (g_netting_Pairs_1 x_4140 a2 a3).bind fun x_4145 =>
  bindF (ρ := D.Ratio × Int) (
  if (x_4145 == 1) = true then
  (g_ratio_Add s_4092.1 x_4140.Amount).bind fun x_4157 =>
  some (.inl (x_4157.1, x_4157.2))
  else
  if (x_4145 == (-1)) = true then
  (g_ratio_Sub s_4092.1 x_4140.Amount).bind fun x_4160 =>
  some (.inl (x_4160.1, x_4160.2))
  else
  some (.inl (s_4092.1, s_4092.2.1))) (fun (e_4153 : D.Ratio × Int) =>
  if (e_4153.2 != 0) = true then
  some (.inr (.inr ((D.Ratio.mk 0 0), e_4153.2)))
  else
  some (.inl (e_4153.1, e_4153.2, (IntKind.i64.wrap (s_4092.2.2 + 1)))))
  else
  some (.inr (.inl s_4092.1))) ((D.Ratio.mk 0 1), 0, 0)) (fun (e_3951 : D.Ratio) =>
  some (e_3951, 0))
set_option maxHeartbeats 4000000 in
theorem g_netting_sum_Pairs_1_ok {a1 : List D.Debt} {a2 : Int} {a3 : Int} {res : D.Ratio × Int} (h : g_netting_sum_Pairs_1 a1 a2 a3 = some res) : SpecK Try.prog [] 26 [sl 4 cs_Debt a1, .fn 29 [.ptr 0 0, .ptr 1 0]] [(0, ⟨3, 0, [I a2]⟩), (1, ⟨3, 0, [I a3]⟩)] 2 (.tup [.agg (cs_Ratio res.1), I res.2]) [(0, ⟨3, 0, [I a2]⟩), (1, ⟨3, 0, [I a3]⟩)] 2 := by
  refine ⟨spec_of_wp Try.func26 (by kernel_rfl) rfl Try.ntmps26 (by rw [Try.results26]) (leB rfl) ?_, by kernel_rfl, ⟨⟨leB rfl, by kernel_rfl⟩, ⟨⟨leB rfl, by kernel_rfl⟩, trivial⟩⟩, by kernel_rfl, ⟨⟨leB rfl, by kernel_rfl⟩, ⟨⟨leB rfl, by kernel_rfl⟩, trivial⟩⟩, by kernel_rfl⟩
  unfold g_netting_sum_Pairs_1 at h
  refine w_reg ⟨[(0, sl 4 cs_Debt a1), (1, .fn 29 [.ptr 0 0, .ptr 1 0]), (4, .ptr 2 0)], [(2, ⟨34, 0, [I 0, I 0]⟩), (0, ⟨3, 0, [I a2]⟩), (1, ⟨3, 0, [I a3]⟩)], 3⟩ (by kernel_rfl) (leB rfl) ?_
  refine w_reg ⟨[(0, sl 4 cs_Debt a1), (1, .fn 29 [.ptr 0 0, .ptr 1 0]), (4, .ptr 2 0), (6, .ptr 3 0), (7, I 0)], [(3, ⟨34, 0, [I 0, I 1]⟩), (2, ⟨34, 0, [I 0, I 0]⟩), (0, ⟨3, 0, [I a2]⟩), (1, ⟨3, 0, [I a3]⟩)], 4⟩ (by kernel_rfl) (leB rfl) ?_
  refine w_assoc ?_
  refine w_seq (fun K hK_3743 => w_reg0 ?_)
  refine dd_run 0 1 rfl (by kernel_rfl) ?_
  refine dd_one 1 (.call ⟨.builtin .len, #[(.tmp 11)], #[22]⟩) (some 12) (by kernel_rfl) (o_pure (I (a1.length : Int)) (ev_len_sl (e := 38) (ty := 0) (k := 4) (c := cs_Debt) (by kernel_rfl) (by kernel_rfl)) rfl) ?_
  refine ops_fin' hK_3743 ⟨[(1, .fn 29 [.ptr 0 0, .ptr 1 0]), (4, .ptr 2 0), (6, .ptr 3 0), (7, I 0), (11, sl 4 cs_Debt a1), (12, I (a1.length : Int)), (13, I 0)], [(3, ⟨34, 0, [I 0, I 1]⟩), (2, ⟨34, 0, [I 0, I 0]⟩), (0, ⟨3, 0, [I a2]⟩), (1, ⟨3, 0, [I a3]⟩)], 4⟩ (by kernel_rfl) (leB rfl) ?_
  refine w_cut h (fun (e_3951 : D.Ratio) => ⟨[(4, .ptr 2 0), (6, .ptr 3 0)], [(0, ⟨3, 0, [I a2]⟩), (1, ⟨3, 0, [I a3]⟩), (2, ⟨34, 0, [I 0, I 0]⟩), (3, ⟨34, 0, (cs_Ratio e_3951)⟩)], 4⟩) (fun o h h_3952 K hK_3953 => ?_) (fun e_3951 h => ?_)
  · refine w_block ?_
    refine w_loopO h (fun (s_4092 : D.Ratio × Int × Int) => ⟨[(1, .fn 29 [.ptr 0 0, .ptr 1 0]), (4, .ptr 2 0), (6, .ptr 3 0), (7, I s_4092.2.1), (11, sl 4 cs_Debt a1), (12, I (a1.length : Int)), (13, I s_4092.2.2)], [(0, ⟨3, 0, [I a2]⟩), (1, ⟨3, 0, [I a3]⟩), (2, ⟨34, 0, [I 0, I 0]⟩), (3, ⟨34, 0, (cs_Ratio s_4092.1)⟩)], 4⟩) (to_ren [] (leB rfl) (by kernel_rfl) (by kernel_rfl) (renE_of (by kernel_rfl) (by kernel_rfl)) ⟨reRn (by kernel_rfl) (leB rfl) (by kernel_rfl), ⟨reRn (by kernel_rfl) (leB rfl) (by kernel_rfl), ⟨reRn (by kernel_rfl) (leB rfl) (by kernel_rfl), ⟨reRn (by kernel_rfl) (leB rfl) (by kernel_rfl), trivial⟩⟩⟩⟩) (fun s_4092 o h h_4093 K hK_4094 => ?_)
    · refine w_reg ⟨[(1, .fn 29 [.ptr 0 0, .ptr 1 0]), (4, .ptr 2 0), (6, .ptr 3 0), (7, I s_4092.2.1), (11, sl 4 cs_Debt a1), (12, I (a1.length : Int)), (13, I s_4092.2.2), (14, B (decide (s_4092.2.2 < (a1.length : Int))))], [(0, ⟨3, 0, [I a2]⟩), (1, ⟨3, 0, [I a3]⟩), (2, ⟨34, 0, [I 0, I 0]⟩), (3, ⟨34, 0, (cs_Ratio s_4092.1)⟩)], 4⟩ (by kernel_rfl) (leB rfl) ?_
      refine w_seq (fun K hK_4096 => ?_)
      refine w_ite h (by kernel_rfl) (fun h_4097 h => ?_) (fun h_4097 h => ?_)
      · refine w_skip ?_
        refine hK_4096 _ ⟨[(1, .fn 29 [.ptr 0 0, .ptr 1 0]), (4, .ptr 2 0), (6, .ptr 3 0), (7, I s_4092.2.1), (11, sl 4 cs_Debt a1), (12, I (a1.length : Int)), (13, I s_4092.2.2)], [(0, ⟨3, 0, [I a2]⟩), (1, ⟨3, 0, [I a3]⟩), (2, ⟨34, 0, [I 0, I 0]⟩), (3, ⟨34, 0, (cs_Ratio s_4092.1)⟩)], 4⟩ (to_trim (by kernel_rfl) (leB rfl)) ?_
        refine w_seq (fun K hK_4130 => ?_)
        refine w_block ?_
        refine w_seq (fun K hK_4137 => w_reg0 ?_)
        obtain ⟨x_4140, h_4141, h⟩ := bind_some' h
        refine dd_one 0 (.indexAddr 22 (.tmp 11) (.tmp 13)) (some 15) (by kernel_rfl) (o_pure (.ip (cs_Debt x_4140)) (ev_idx_sl (e := 38) (k := 4) (c := cs_Debt) (ik := .i64) h_4141 (by kernel_rfl) (by kernel_rfl) (by kernel_rfl) (by kernel_rfl)) rfl) ?_
        refine ops_fin' hK_4137 ⟨[(1, .fn 29 [.ptr 0 0, .ptr 1 0]), (4, .ptr 2 0), (6, .ptr 3 0), (7, I s_4092.2.1), (9, .ptr 4 0), (11, sl 4 cs_Debt a1), (12, I (a1.length : Int)), (13, I s_4092.2.2)], [(4, ⟨38, 0, (cs_Debt x_4140)⟩), (0, ⟨3, 0, [I a2]⟩), (1, ⟨3, 0, [I a3]⟩), (2, ⟨34, 0, [I 0, I 0]⟩), (3, ⟨34, 0, (cs_Ratio s_4092.1)⟩)], 5⟩ (by kernel_rfl) (leB rfl) ?_
        refine w_assoc ?_
        refine w_seq (fun K hK_4144 => w_reg0 ?_)
        refine dd_run 0 2 rfl (by kernel_rfl) ?_
        obtain ⟨x_4145, h_4146, h⟩ := bind_some' h
        refine dd_one 2 (.call ⟨.value (.tmp 17), #[(.tmp 18)], #[38]⟩) (some 19) (by kernel_rfl) (o_callE [0, 1] (g_netting_Pairs_1_ok h_4146) (by kernel_rfl) (by kernel_rfl) (by kernel_rfl) rfl) ?_
        refine ops_fin' hK_4144 ⟨[(1, .fn 29 [.ptr 0 0, .ptr 1 0]), (4, .ptr 2 0), (6, .ptr 3 0), (7, I s_4092.2.1), (9, .ptr 4 0), (11, sl 4 cs_Debt a1), (12, I (a1.length : Int)), (13, I s_4092.2.2), (19, I x_4145)], [(0, ⟨3, 0, [I a2]⟩), (1, ⟨3, 0, [I a3]⟩), (4, ⟨38, 0, (cs_Debt x_4140)⟩), (2, ⟨34, 0, [I 0, I 0]⟩), (3, ⟨34, 0, (cs_Ratio s_4092.1)⟩)], 5⟩ (by kernel_rfl) (leB rfl) ?_
        refine w_cut h (fun (e_4153 : D.Ratio × Int) => ⟨[(1, .fn 29 [.ptr 0 0, .ptr 1 0]), (4, .ptr 2 0), (6, .ptr 3 0), (7, I e_4153.2), (11, sl 4 cs_Debt a1), (12, I (a1.length : Int)), (13, I s_4092.2.2)], [(0, ⟨3, 0, [I a2]⟩), (1, ⟨3, 0, [I a3]⟩), (2, ⟨34, 0, [I 0, I 0]⟩), (3, ⟨34, 0, (cs_Ratio e_4153.1)⟩)], 4⟩) (fun o h h_4154 K hK_4155 => ?_) (fun e_4153 h => ?_)
        · refine w_block ?_
          refine w_reg ⟨[(1, .fn 29 [.ptr 0 0, .ptr 1 0]), (4, .ptr 2 0), (6, .ptr 3 0), (7, I s_4092.2.1), (9, .ptr 4 0), (11, sl 4 cs_Debt a1), (12, I (a1.length : Int)), (13, I s_4092.2.2), (19, I x_4145), (20, B (x_4145 == 1))], [(0, ⟨3, 0, [I a2]⟩), (1, ⟨3, 0, [I a3]⟩), (4, ⟨38, 0, (cs_Debt x_4140)⟩), (2, ⟨34, 0, [I 0, I 0]⟩), (3, ⟨34, 0, (cs_Ratio s_4092.1)⟩)], 5⟩ (by kernel_rfl) (leB rfl) ?_
          refine w_ite h (by kernel_rfl) (fun h_4156 h => ?_) (fun h_4156 h => ?_)
          · refine w_reg0 ?_
            refine dd_run 0 3 rfl (by kernel_rfl) ?_
            obtain ⟨x_4157, h_4158, h⟩ := bind_some' h
            refine dd_one 3 (.call ⟨.value (.func 20), #[(.tmp 23), (.tmp 25)], #[34, 34]⟩) (some 26) (by kernel_rfl) (o_callP (g_ratio_Add_ok h_4158) (by kernel_rfl) rfl) ?_
            refine dd_run 4 9 rfl (by kernel_rfl) ?_
            refine dd_nil 9 rfl ?_
            exact hK_4155 _ _ (Option.some.inj h).symm (to_ren [] (leB rfl) (by kernel_rfl) (by kernel_rfl) (renE_of (by kernel_rfl) (by kernel_rfl)) ⟨reRn (by kernel_rfl) (leB rfl) (by kernel_rfl), ⟨reRn (by kernel_rfl) (leB rfl) (by kernel_rfl), ⟨reRn (by kernel_rfl) (leB rfl) (by kernel_rfl), ⟨reRn (by kernel_rfl) (leB rfl) (by kernel_rfl), trivial⟩⟩⟩⟩)
          · refine w_reg ⟨[(1, .fn 29 [.ptr 0 0, .ptr 1 0]), (4, .ptr 2 0), (6, .ptr 3 0), (7, I s_4092.2.1), (9, .ptr 4 0), (11, sl 4 cs_Debt a1), (12, I (a1.length : Int)), (13, I s_4092.2.2), (29, B (x_4145 == (-1)))], [(0, ⟨3, 0, [I a2]⟩), (1, ⟨3, 0, [I a3]⟩), (4, ⟨38, 0, (cs_Debt x_4140)⟩), (2, ⟨34, 0, [I 0, I 0]⟩), (3, ⟨34, 0, (cs_Ratio s_4092.1)⟩)], 5⟩ (by kernel_rfl) (leB rfl) ?_
            refine w_ite h (by kernel_rfl) (fun h_4159 h => ?_) (fun h_4159 h => ?_)
            · refine w_reg0 ?_
              refine dd_run 0 3 rfl (by kernel_rfl) ?_
              obtain ⟨x_4160, h_4161, h⟩ := bind_some' h
              refine dd_one 3 (.call ⟨.value (.func 36), #[(.tmp 32), (.tmp 34)], #[34, 34]⟩) (some 35) (by kernel_rfl) (o_callP (g_ratio_Sub_ok h_4161) (by kernel_rfl) rfl) ?_
              refine dd_run 4 9 rfl (by kernel_rfl) ?_
              refine dd_nil 9 rfl ?_
              exact hK_4155 _ _ (Option.some.inj h).symm (to_ren [] (leB rfl) (by kernel_rfl) (by kernel_rfl) (renE_of (by kernel_rfl) (by kernel_rfl)) ⟨reRn (by kernel_rfl) (leB rfl) (by kernel_rfl), ⟨reRn (by kernel_rfl) (leB rfl) (by kernel_rfl), ⟨reRn (by kernel_rfl) (leB rfl) (by kernel_rfl), ⟨reRn (by kernel_rfl) (leB rfl) (by kernel_rfl), trivial⟩⟩⟩⟩)
            · refine w_skip ?_
              exact hK_4155 _ _ (Option.some.inj h).symm (to_ren [] (leB rfl) (by kernel_rfl) (by kernel_rfl) (renE_of (by kernel_rfl) (by kernel_rfl)) ⟨reRn (by kernel_rfl) (leB rfl) (by kernel_rfl), ⟨reRn (by kernel_rfl) (leB rfl) (by kernel_rfl), ⟨reRn (by kernel_rfl) (leB rfl) (by kernel_rfl), ⟨reRn (by kernel_rfl) (leB rfl) (by kernel_rfl), trivial⟩⟩⟩⟩)
        · refine w_reg ⟨[(1, .fn 29 [.ptr 0 0, .ptr 1 0]), (4, .ptr 2 0), (6, .ptr 3 0), (7, I e_4153.2), (11, sl 4 cs_Debt a1), (12, I (a1.length : Int)), (13, I s_4092.2.2), (39, B (e_4153.2 != 0))], [(0, ⟨3, 0, [I a2]⟩), (1, ⟨3, 0, [I a3]⟩), (2, ⟨34, 0, [I 0, I 0]⟩), (3, ⟨34, 0, (cs_Ratio e_4153.1)⟩)], 4⟩ (by kernel_rfl) (leB rfl) ?_
          refine w_ite h (by kernel_rfl) (fun h_4162 h => ?_) (fun h_4162 h => ?_)
          · refine w_reg ⟨[(4, .ptr 2 0), (5, I e_4153.2)], [(0, ⟨3, 0, [I a2]⟩), (1, ⟨3, 0, [I a3]⟩), (2, ⟨34, 0, [I 0, I 0]⟩), (3, ⟨34, 0, (cs_Ratio e_4153.1)⟩)], 4⟩ (by kernel_rfl) (leB rfl) ?_
            refine w_ret ?_
            obtain rfl := ((h_3952 _ (h_4093 _ (Option.some.inj h).symm).symm).symm).symm
            exact ret_leaf (.inl rfl) ⟨[(4, .ptr 2 0), (5, I e_4153.2)], [(0, ⟨3, 0, [I a2]⟩), (1, ⟨3, 0, [I a3]⟩), (2, ⟨34, 0, (cs_Ratio (D.Ratio.mk 0 0))⟩)], 3⟩ (to_ren [] (leB rfl) (by kernel_rfl) (by kernel_rfl) (renE_of (by kernel_rfl) (by kernel_rfl)) ⟨reRn (by kernel_rfl) (leB rfl) (by kernel_rfl), ⟨reRn (by kernel_rfl) (leB rfl) (by kernel_rfl), ⟨reRn (by kernel_rfl) (leB rfl) (by kernel_rfl), trivial⟩⟩⟩) [.agg (cs_Ratio (D.Ratio.mk 0 0)), I e_4153.2] (by kernel_rfl) (by kernel_rfl) (leB rfl) (by kernel_rfl) ⟨⟨by kernel_rfl, leB rfl, (by kernel_rfl)⟩, ⟨⟨by kernel_rfl, leB rfl, (by kernel_rfl)⟩, trivial⟩⟩
          · refine w_skip ?_
            refine hK_4130 _ ⟨[(1, .fn 29 [.ptr 0 0, .ptr 1 0]), (4, .ptr 2 0), (6, .ptr 3 0), (7, I e_4153.2), (11, sl 4 cs_Debt a1), (12, I (a1.length : Int)), (13, I s_4092.2.2)], [(0, ⟨3, 0, [I a2]⟩), (1, ⟨3, 0, [I a3]⟩), (2, ⟨34, 0, [I 0, I 0]⟩), (3, ⟨34, 0, (cs_Ratio e_4153.1)⟩)], 4⟩ (to_trim (by kernel_rfl) (leB rfl)) ?_
            refine w_reg0 ?_
            refine dd_run 0 2 rfl (by kernel_rfl) ?_
            refine dd_nil 2 rfl ?_
            exact hK_4094 _ _ (Option.some.inj h).symm (to_ren [] (leB rfl) (by kernel_rfl) (by kernel_rfl) (renE_of (by kernel_rfl) (by kernel_rfl)) ⟨reRn (by kernel_rfl) (leB rfl) (by kernel_rfl), ⟨reRn (by kernel_rfl) (leB rfl) (by kernel_rfl), ⟨reRn (by kernel_rfl) (leB rfl) (by kernel_rfl), ⟨reRn (by kernel_rfl) (leB rfl) (by kernel_rfl), trivial⟩⟩⟩⟩)
      · refine w_exit ?_
        exact hK_3953 _ _ (h_4093 _ (Option.some.inj h).symm).symm (to_ren [] (leB rfl) (by kernel_rfl) (by kernel_rfl) (renE_of (by kernel_rfl) (by kernel_rfl)) ⟨reRn (by kernel_rfl) (leB rfl) (by kernel_rfl), ⟨reRn (by kernel_rfl) (leB rfl) (by kernel_rfl), ⟨reRn (by kernel_rfl) (leB rfl) (by kernel_rfl), ⟨reRn (by kernel_rfl) (leB rfl) (by kernel_rfl), trivial⟩⟩⟩⟩)
  · refine w_reg ⟨[(4, .ptr 2 0), (5, I 0)], [(0, ⟨3, 0, [I a2]⟩), (1, ⟨3, 0, [I a3]⟩), (2, ⟨34, 0, (cs_Ratio e_3951)⟩), (3, ⟨34, 0, (cs_Ratio e_3951)⟩)], 4⟩ (by kernel_rfl) (leB rfl) ?_
    refine w_ret ?_
    obtain rfl := ((Option.some.inj h).symm).symm
    exact ret_leaf (.inl rfl) ⟨[(4, .ptr 2 0), (5, I 0)], [(0, ⟨3, 0, [I a2]⟩), (1, ⟨3, 0, [I a3]⟩), (2, ⟨34, 0, (cs_Ratio e_3951)⟩)], 3⟩ (to_ren [] (leB rfl) (by kernel_rfl) (by kernel_rfl) (renE_of (by kernel_rfl) (by kernel_rfl)) ⟨reRn (by kernel_rfl) (leB rfl) (by kernel_rfl), ⟨reRn (by kernel_rfl) (leB rfl) (by kernel_rfl), ⟨reRn (by kernel_rfl) (leB rfl) (by kernel_rfl), trivial⟩⟩⟩) [.agg (cs_Ratio e_3951), I 0] (by kernel_rfl) (by kernel_rfl) (leB rfl) (by kernel_rfl) ⟨⟨by kernel_rfl, leB rfl, (by kernel_rfl)⟩, ⟨⟨by kernel_rfl, leB rfl, (by kernel_rfl)⟩, trivial⟩⟩
end Go.Proofs.Ytgggekjhfdkgkaa.Ab
