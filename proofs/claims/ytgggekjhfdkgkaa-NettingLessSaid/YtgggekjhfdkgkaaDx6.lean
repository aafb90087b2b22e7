/- Functions of the program as plain functions (printed by wip/dec.py). -/
import Derived.Test.YtgggekjhfdkgkaaDx2
import Derived.Test.YtgggekjhfdkgkaaDx3
namespace Go.Proofs.Ytgggekjhfdkgkaa.Ab
open Go Go.RowKit Go.Shelf
/-- estoppel/netting.Positions -/
def g_netting_Positions_own (a1 : Int) (a2 : List D.Debt) : Option ((Int) ⊕ (List D.Ratio × Int)) :=
  (g_netting_Valid a1 a2).bind fun x_12252 =>
  if (!x_12252) = true then
  some (.inl 1)
  else
  (makeO 16 (D.Ratio.mk 0 0) a1 a1).bind fun x_12266 =>
  bindF (ρ := List D.Ratio) (
  loopO (σ := List D.Ratio × Int) (fun s_12416 =>
  if (decide (s_12416.2 < (x_12266.length : Int))) = true then
  (g_netting_sum_Positions_1 a2 s_12416.2).bind fun x_12438 =>
  if (x_12438.2 != 0) = true then
  some (.inr (.inr (.inl x_12438.2)))
  else
  (getI s_12416.1 s_12416.2).bind fun x_12445 =>
  some (.inl ((setI s_12416.1 s_12416.2 x_12438.1), (IntKind.i64.wrap (s_12416.2 + 1))))
  else
  some (.inr (.inl s_12416.1))) (x_12266, 0)) (fun (e_12355 : List D.Ratio) =>
  some (.inr (e_12355, 0)))
set_option maxHeartbeats 4000000 in
theorem g_netting_Positions_own_ok1 {a1 : Int} {a2 : List D.Debt} {res : Int} (h : g_netting_Positions_own a1 a2 = some (.inl res)) : SpecK Try.prog [] 10 [I a1, sl 4 cs_Debt a2] [] 0 (.tup [Nl, I res]) [] 0 := by
  refine ⟨spec_of_wp Try.func10 (by kernel_rfl) rfl Try.ntmps10 (by rw [Try.results10]) (leB rfl) ?_, by kernel_rfl, trivial, by kernel_rfl, trivial, by kernel_rfl⟩
  unfold g_netting_Positions_own at h
  refine w_reg ⟨[(0, I a1), (1, sl 4 cs_Debt a2)], [], 0⟩ (by kernel_rfl) (leB rfl) ?_
  refine w_assoc ?_
  refine w_seq (fun K hK_12251 => w_reg0 ?_)
  refine dd_run 0 2 rfl (by kernel_rfl) ?_
  obtain ⟨x_12252, h_12253, h⟩ := bind_some' h
  refine dd_one 2 (.call ⟨.value (.func 16), #[(.tmp 10), (.tmp 11)], #[3, 22]⟩) (some 12) (by kernel_rfl) (o_callP (g_netting_Valid_ok h_12253) (by kernel_rfl) rfl) ?_
  refine ops_fin' hK_12251 ⟨[(0, I a1), (1, sl 4 cs_Debt a2), (13, B (!x_12252))], [], 0⟩ (by kernel_rfl) (leB rfl) ?_
  refine w_seq (fun K hK_12255 => ?_)
  refine w_ite h (by kernel_rfl) (fun h_12256 h => ?_) (fun h_12256 h => ?_)
  · refine w_reg ⟨[(4, Nl), (5, I 1)], [], 0⟩ (by kernel_rfl) (leB rfl) ?_
    refine w_ret ?_
    obtain rfl := ((Sum.inl.inj (Option.some.inj h).symm)).symm
    exact ret_leaf (.inl rfl) ⟨[(4, Nl), (5, I 1)], [], 0⟩ (to_ren [] (leB rfl) (by kernel_rfl) (by kernel_rfl) (renE_of (by kernel_rfl) (by kernel_rfl)) trivial) [Nl, I 1] (by kernel_rfl) (by kernel_rfl) (leB rfl) (by kernel_rfl) trivial
  · refine w_skip ?_
    refine hK_12255 _ ⟨[(0, I a1), (1, sl 4 cs_Debt a2)], [], 0⟩ (to_trim (by kernel_rfl) (leB rfl)) ?_
    refine w_seq (fun K hK_12263 => w_reg0 ?_)
    refine dd_run 0 1 rfl (by kernel_rfl) ?_
    obtain ⟨x_12266, h_12267, h⟩ := bind_some' h
    refine dd_one 1 (.makeSlice 24 (.tmp 14) (.tmp 14)) (some 15) (by kernel_rfl) (o_heap (.own 0 x_12266.length) [(0, ⟨34, 2, flat cs_Ratio x_12266⟩)] 1 (by kernel_rfl) (hv_make (e := 34) (k := 2) (c := cs_Ratio) (ik := .i64) (jk := .i64) h_12267 (by kernel_rfl) (by kernel_rfl) (by kernel_rfl) (by kernel_rfl) (leB rfl) rfl (by kernel_rfl) (by kernel_rfl)) rfl) ?_
    refine ops_fin' hK_12263 ⟨[(1, sl 4 cs_Debt a2), (6, .own 0 x_12266.length)], [(0, ⟨34, 2, flat cs_Ratio x_12266⟩)], 1⟩ (by kernel_rfl) (leB rfl) ?_
    refine w_assoc ?_
    refine w_reg ⟨[(1, sl 4 cs_Debt a2), (6, .own 0 x_12266.length), (17, I (x_12266.length : Int)), (18, I 0)], [(0, ⟨34, 2, flat cs_Ratio x_12266⟩)], 1⟩ (by kernel_rfl) (leB rfl) ?_
    refine w_cut h (fun (e_12355 : List D.Ratio) => ⟨[(6, .own 0 e_12355.length)], [(0, ⟨34, 2, flat cs_Ratio e_12355⟩)], 1⟩) (fun o h h_12356 K hK_12357 => ?_) (fun e_12355 h => ?_)
    · refine w_block ?_
      refine w_loopO h (fun (s_12416 : List D.Ratio × Int) => ⟨[(1, sl 4 cs_Debt a2), (6, .own 0 s_12416.1.length), (17, I (x_12266.length : Int)), (18, I s_12416.2)], [(0, ⟨34, 2, flat cs_Ratio s_12416.1⟩)], 1⟩) (to_ren [] (leB rfl) (by kernel_rfl) (by kernel_rfl) (renE_of (by kernel_rfl) (by kernel_rfl)) ⟨rePl (by kernel_rfl) (leB rfl) (flat_all _ (fun _ => rfl) _), trivial⟩) (fun s_12416 o h h_12417 K hK_12418 => ?_)
      · refine w_reg ⟨[(1, sl 4 cs_Debt a2), (6, .own 0 s_12416.1.length), (17, I (x_12266.length : Int)), (18, I s_12416.2), (19, B (decide (s_12416.2 < (x_12266.length : Int))))], [(0, ⟨34, 2, flat cs_Ratio s_12416.1⟩)], 1⟩ (by kernel_rfl) (leB rfl) ?_
        refine w_seq (fun K hK_12420 => ?_)
        refine w_ite h (by kernel_rfl) (fun h_12421 h => ?_) (fun h_12421 h => ?_)
        · refine w_skip ?_
          refine hK_12420 _ ⟨[(1, sl 4 cs_Debt a2), (6, .own 0 s_12416.1.length), (17, I (x_12266.length : Int)), (18, I s_12416.2)], [(0, ⟨34, 2, flat cs_Ratio s_12416.1⟩)], 1⟩ (to_trim (by kernel_rfl) (leB rfl)) ?_
          refine w_seq (fun K hK_12434 => ?_)
          refine w_block ?_
          refine w_reg ⟨[(1, sl 4 cs_Debt a2), (6, .own 0 s_12416.1.length), (7, .ptr 1 0), (17, I (x_12266.length : Int)), (18, I s_12416.2)], [(1, ⟨3, 0, [I s_12416.2]⟩), (0, ⟨34, 2, flat cs_Ratio s_12416.1⟩)], 2⟩ (by kernel_rfl) (leB rfl) ?_
          refine w_seq (fun K hK_12437 => w_reg0 ?_)
          refine dd_run 0 2 rfl (by kernel_rfl) ?_
          obtain ⟨x_12438, h_12439, h⟩ := bind_some' h
          refine dd_one 2 (.call ⟨.value (.func 26), #[(.tmp 22), (.tmp 23)], #[22, 45]⟩) (some 24) (by kernel_rfl) (o_callE [1] (g_netting_sum_Positions_1_ok h_12439) (by kernel_rfl) (by kernel_rfl) (by kernel_rfl) rfl) ?_
          refine ops_fin' hK_12437 ⟨[(1, sl 4 cs_Debt a2), (6, .own 0 s_12416.1.length), (7, .ptr 1 0), (8, .ptr 2 0), (9, I x_12438.2), (17, I (x_12266.length : Int)), (18, I s_12416.2)], [(2, ⟨34, 0, (cs_Ratio x_12438.1)⟩), (1, ⟨3, 0, [I s_12416.2]⟩), (0, ⟨34, 2, flat cs_Ratio s_12416.1⟩)], 3⟩ (by kernel_rfl) (leB rfl) ?_
          refine w_assoc ?_
          refine w_reg ⟨[(1, sl 4 cs_Debt a2), (6, .own 0 s_12416.1.length), (7, .ptr 1 0), (8, .ptr 2 0), (9, I x_12438.2), (17, I (x_12266.length : Int)), (18, I s_12416.2), (28, B (x_12438.2 != 0))], [(2, ⟨34, 0, (cs_Ratio x_12438.1)⟩), (1, ⟨3, 0, [I s_12416.2]⟩), (0, ⟨34, 2, flat cs_Ratio s_12416.1⟩)], 3⟩ (by kernel_rfl) (leB rfl) ?_
          refine w_seq (fun K hK_12441 => ?_)
          refine w_ite h (by kernel_rfl) (fun h_12442 h => ?_) (fun h_12442 h => ?_)
          · refine w_reg ⟨[(4, Nl), (5, I x_12438.2)], [(2, ⟨34, 0, (cs_Ratio x_12438.1)⟩), (1, ⟨3, 0, [I s_12416.2]⟩), (0, ⟨34, 2, flat cs_Ratio s_12416.1⟩)], 3⟩ (by kernel_rfl) (leB rfl) ?_
            refine w_ret ?_
            obtain rfl := ((Sum.inl.inj (h_12356 _ (h_12417 _ (Option.some.inj h).symm).symm).symm)).symm
            exact ret_leaf (.inl rfl) ⟨[(4, Nl), (5, I x_12438.2)], [], 0⟩ (to_ren [] (leB rfl) (by kernel_rfl) (by kernel_rfl) (renE_of (by kernel_rfl) (by kernel_rfl)) trivial) [Nl, I x_12438.2] (by kernel_rfl) (by kernel_rfl) (leB rfl) (by kernel_rfl) trivial
          · refine w_skip ?_
            refine hK_12441 _ ⟨[(1, sl 4 cs_Debt a2), (6, .own 0 s_12416.1.length), (7, .ptr 1 0), (8, .ptr 2 0), (17, I (x_12266.length : Int)), (18, I s_12416.2)], [(2, ⟨34, 0, (cs_Ratio x_12438.1)⟩), (1, ⟨3, 0, [I s_12416.2]⟩), (0, ⟨34, 2, flat cs_Ratio s_12416.1⟩)], 3⟩ (to_trim (by kernel_rfl) (leB rfl)) ?_
            refine w_reg0 ?_
            refine dd_run 0 3 rfl (by kernel_rfl) ?_
            obtain ⟨x_12445, h_12446, h⟩ := bind_some' h
            refine dd_one 3 (.indexAddr 24 (.tmp 30) (.tmp 31)) (some 33) (by kernel_rfl) (o_pure (.ptr 0 (s_12416.2.toNat * 2)) (ev_idx_own (N := s_12416.1.length) (e := 34) (k := 2) (ik := .i64) h_12446 rfl (by kernel_rfl) (by kernel_rfl) (by kernel_rfl) (by kernel_rfl)) rfl) ?_
            refine dd_one 4 (.store 34 (.tmp 33) (.tmp 32)) none (by kernel_rfl) (o_heap (U) [(2, ⟨34, 0, (cs_Ratio x_12438.1)⟩), (1, ⟨3, 0, [I s_12416.2]⟩), (0, ⟨34, 2, flat cs_Ratio (setI s_12416.1 s_12416.2 x_12438.1)⟩)] 3 (by kernel_rfl) (hv_store_row (o := s_12416.2.toNat * 2) (b := 0) (y := .agg (cs_Ratio x_12438.1)) (i := s_12416.2.toNat) (j := 0) (k := 2) (s := 2) (c := cs_Ratio) (a' := x_12438.1) (sz := 2) (ty := 34) (fun _ => rfl) (getI_some h_12446).2 rfl (by kernel_rfl) (by kernel_rfl) (by kernel_rfl) (by kernel_rfl) (by kernel_rfl) (by kernel_rfl) (leB rfl) (by kernel_rfl)) rfl) ?_
            refine dd_nil 5 rfl ?_
            refine hK_12434 _ ⟨[(1, sl 4 cs_Debt a2), (6, .own 0 s_12416.1.length), (17, I (x_12266.length : Int)), (18, I s_12416.2)], [(2, ⟨34, 0, (cs_Ratio x_12438.1)⟩), (1, ⟨3, 0, [I s_12416.2]⟩), (0, ⟨34, 2, flat cs_Ratio (setI s_12416.1 s_12416.2 x_12438.1)⟩)], 3⟩ (to_trim (by kernel_rfl) (leB rfl)) ?_
            refine w_reg0 ?_
            refine dd_run 0 2 rfl (by kernel_rfl) ?_
            refine dd_nil 2 rfl ?_
            exact hK_12418 _ _ (Option.some.inj h).symm (to_trans (to_put 6 (leB rfl) (by kernel_rfl) (Sub.of_eq (show AV.own 0 s_12416.1.length = AV.own 0 (setI s_12416.1 s_12416.2 x_12438.1).length by simp [setI]))) (to_ren [] (leB rfl) (by kernel_rfl) (by kernel_rfl) (renE_of (by kernel_rfl) (by kernel_rfl)) ⟨rePl (by kernel_rfl) (leB rfl) (flat_all _ (fun _ => rfl) _), trivial⟩))
        · refine w_exit ?_
          exact hK_12357 _ _ (h_12417 _ (Option.some.inj h).symm).symm (to_ren [] (leB rfl) (by kernel_rfl) (by kernel_rfl) (renE_of (by kernel_rfl) (by kernel_rfl)) ⟨rePl (by kernel_rfl) (leB rfl) (flat_all _ (fun _ => rfl) _), trivial⟩)
    · refine w_reg ⟨[(4, .own 0 e_12355.length), (5, I 0)], [(0, ⟨34, 2, flat cs_Ratio e_12355⟩)], 1⟩ (by kernel_rfl) (leB rfl) ?_
      refine w_ret ?_
      have hq_ := (Option.some.inj h).symm
      cases hq_
set_option maxHeartbeats 4000000 in
theorem g_netting_Positions_own_ok2 {a1 : Int} {a2 : List D.Debt} {res : List D.Ratio × Int} (h : g_netting_Positions_own a1 a2 = some (.inr res)) : SpecK Try.prog [0] 10 [I a1, sl 4 cs_Debt a2] [] 0 (.tup [.own 0 res.1.length, I res.2]) [(0, ⟨34, 2, flat cs_Ratio res.1⟩)] 1 := by
  refine ⟨spec_of_wp Try.func10 (by kernel_rfl) rfl Try.ntmps10 (by rw [Try.results10]) (leB rfl) ?_, by kernel_rfl, trivial, by kernel_rfl, ⟨⟨leB rfl, flat_all (AV.keyed 0 4) (fun _ => rfl) _⟩, trivial⟩, by kernel_rfl⟩
  unfold g_netting_Positions_own at h
  refine w_reg ⟨[(0, I a1), (1, sl 4 cs_Debt a2)], [], 0⟩ (by kernel_rfl) (leB rfl) ?_
  refine w_assoc ?_
  refine w_seq (fun K hK_12449 => w_reg0 ?_)
  refine dd_run 0 2 rfl (by kernel_rfl) ?_
  obtain ⟨x_12450, h_12451, h⟩ := bind_some' h
  refine dd_one 2 (.call ⟨.value (.func 16), #[(.tmp 10), (.tmp 11)], #[3, 22]⟩) (some 12) (by kernel_rfl) (o_callP (g_netting_Valid_ok h_12451) (by kernel_rfl) rfl) ?_
  refine ops_fin' hK_12449 ⟨[(0, I a1), (1, sl 4 cs_Debt a2), (13, B (!x_12450))], [], 0⟩ (by kernel_rfl) (leB rfl) ?_
  refine w_seq (fun K hK_12453 => ?_)
  refine w_ite h (by kernel_rfl) (fun h_12454 h => ?_) (fun h_12454 h => ?_)
  · refine w_reg ⟨[(4, Nl), (5, I 1)], [], 0⟩ (by kernel_rfl) (leB rfl) ?_
    refine w_ret ?_
    have hq_ := (Option.some.inj h).symm
    cases hq_
  · refine w_skip ?_
    refine hK_12453 _ ⟨[(0, I a1), (1, sl 4 cs_Debt a2)], [], 0⟩ (to_trim (by kernel_rfl) (leB rfl)) ?_
    refine w_seq (fun K hK_12461 => w_reg0 ?_)
    refine dd_run 0 1 rfl (by kernel_rfl) ?_
    obtain ⟨x_12464, h_12465, h⟩ := bind_some' h
    refine dd_one 1 (.makeSlice 24 (.tmp 14) (.tmp 14)) (some 15) (by kernel_rfl) (o_heap (.own 0 x_12464.length) [(0, ⟨34, 2, flat cs_Ratio x_12464⟩)] 1 (by kernel_rfl) (hv_make (e := 34) (k := 2) (c := cs_Ratio) (ik := .i64) (jk := .i64) h_12465 (by kernel_rfl) (by kernel_rfl) (by kernel_rfl) (by kernel_rfl) (leB rfl) rfl (by kernel_rfl) (by kernel_rfl)) rfl) ?_
    refine ops_fin' hK_12461 ⟨[(1, sl 4 cs_Debt a2), (6, .own 0 x_12464.length)], [(0, ⟨34, 2, flat cs_Ratio x_12464⟩)], 1⟩ (by kernel_rfl) (leB rfl) ?_
    refine w_assoc ?_
    refine w_reg ⟨[(1, sl 4 cs_Debt a2), (6, .own 0 x_12464.length), (17, I (x_12464.length : Int)), (18, I 0)], [(0, ⟨34, 2, flat cs_Ratio x_12464⟩)], 1⟩ (by kernel_rfl) (leB rfl) ?_
    refine w_cut h (fun (e_12553 : List D.Ratio) => ⟨[(6, .own 0 e_12553.length)], [(0, ⟨34, 2, flat cs_Ratio e_12553⟩)], 1⟩) (fun o h h_12554 K hK_12555 => ?_) (fun e_12553 h => ?_)
    · refine w_block ?_
      refine w_loopO h (fun (s_12614 : List D.Ratio × Int) => ⟨[(1, sl 4 cs_Debt a2), (6, .own 0 s_12614.1.length), (17, I (x_12464.length : Int)), (18, I s_12614.2)], [(0, ⟨34, 2, flat cs_Ratio s_12614.1⟩)], 1⟩) (to_ren [] (leB rfl) (by kernel_rfl) (by kernel_rfl) (renE_of (by kernel_rfl) (by kernel_rfl)) ⟨rePl (by kernel_rfl) (leB rfl) (flat_all _ (fun _ => rfl) _), trivial⟩) (fun s_12614 o h h_12615 K hK_12616 => ?_)
      · refine w_reg ⟨[(1, sl 4 cs_Debt a2), (6, .own 0 s_12614.1.length), (17, I (x_12464.length : Int)), (18, I s_12614.2), (19, B (decide (s_12614.2 < (x_12464.length : Int))))], [(0, ⟨34, 2, flat cs_Ratio s_12614.1⟩)], 1⟩ (by kernel_rfl) (leB rfl) ?_
        refine w_seq (fun K hK_12618 => ?_)
        refine w_ite h (by kernel_rfl) (fun h_12619 h => ?_) (fun h_12619 h => ?_)
        · refine w_skip ?_
          refine hK_12618 _ ⟨[(1, sl 4 cs_Debt a2), (6, .own 0 s_12614.1.length), (17, I (x_12464.length : Int)), (18, I s_12614.2)], [(0, ⟨34, 2, flat cs_Ratio s_12614.1⟩)], 1⟩ (to_trim (by kernel_rfl) (leB rfl)) ?_
          refine w_seq (fun K hK_12632 => ?_)
          refine w_block ?_
          refine w_reg ⟨[(1, sl 4 cs_Debt a2), (6, .own 0 s_12614.1.length), (7, .ptr 1 0), (17, I (x_12464.length : Int)), (18, I s_12614.2)], [(1, ⟨3, 0, [I s_12614.2]⟩), (0, ⟨34, 2, flat cs_Ratio s_12614.1⟩)], 2⟩ (by kernel_rfl) (leB rfl) ?_
          refine w_seq (fun K hK_12635 => w_reg0 ?_)
          refine dd_run 0 2 rfl (by kernel_rfl) ?_
          obtain ⟨x_12636, h_12637, h⟩ := bind_some' h
          refine dd_one 2 (.call ⟨.value (.func 26), #[(.tmp 22), (.tmp 23)], #[22, 45]⟩) (some 24) (by kernel_rfl) (o_callE [1] (g_netting_sum_Positions_1_ok h_12637) (by kernel_rfl) (by kernel_rfl) (by kernel_rfl) rfl) ?_
          refine ops_fin' hK_12635 ⟨[(1, sl 4 cs_Debt a2), (6, .own 0 s_12614.1.length), (7, .ptr 1 0), (8, .ptr 2 0), (9, I x_12636.2), (17, I (x_12464.length : Int)), (18, I s_12614.2)], [(2, ⟨34, 0, (cs_Ratio x_12636.1)⟩), (1, ⟨3, 0, [I s_12614.2]⟩), (0, ⟨34, 2, flat cs_Ratio s_12614.1⟩)], 3⟩ (by kernel_rfl) (leB rfl) ?_
          refine w_assoc ?_
          refine w_reg ⟨[(1, sl 4 cs_Debt a2), (6, .own 0 s_12614.1.length), (7, .ptr 1 0), (8, .ptr 2 0), (9, I x_12636.2), (17, I (x_12464.length : Int)), (18, I s_12614.2), (28, B (x_12636.2 != 0))], [(2, ⟨34, 0, (cs_Ratio x_12636.1)⟩), (1, ⟨3, 0, [I s_12614.2]⟩), (0, ⟨34, 2, flat cs_Ratio s_12614.1⟩)], 3⟩ (by kernel_rfl) (leB rfl) ?_
          refine w_seq (fun K hK_12639 => ?_)
          refine w_ite h (by kernel_rfl) (fun h_12640 h => ?_) (fun h_12640 h => ?_)
          · refine w_reg ⟨[(4, Nl), (5, I x_12636.2)], [(2, ⟨34, 0, (cs_Ratio x_12636.1)⟩), (1, ⟨3, 0, [I s_12614.2]⟩), (0, ⟨34, 2, flat cs_Ratio s_12614.1⟩)], 3⟩ (by kernel_rfl) (leB rfl) ?_
            refine w_ret ?_
            have hq_ := (h_12554 _ (h_12615 _ (Option.some.inj h).symm).symm).symm
            cases hq_
          · refine w_skip ?_
            refine hK_12639 _ ⟨[(1, sl 4 cs_Debt a2), (6, .own 0 s_12614.1.length), (7, .ptr 1 0), (8, .ptr 2 0), (17, I (x_12464.length : Int)), (18, I s_12614.2)], [(2, ⟨34, 0, (cs_Ratio x_12636.1)⟩), (1, ⟨3, 0, [I s_12614.2]⟩), (0, ⟨34, 2, flat cs_Ratio s_12614.1⟩)], 3⟩ (to_trim (by kernel_rfl) (leB rfl)) ?_
            refine w_reg0 ?_
            refine dd_run 0 3 rfl (by kernel_rfl) ?_
            obtain ⟨x_12643, h_12644, h⟩ := bind_some' h
            refine dd_one 3 (.indexAddr 24 (.tmp 30) (.tmp 31)) (some 33) (by kernel_rfl) (o_pure (.ptr 0 (s_12614.2.toNat * 2)) (ev_idx_own (N := s_12614.1.length) (e := 34) (k := 2) (ik := .i64) h_12644 rfl (by kernel_rfl) (by kernel_rfl) (by kernel_rfl) (by kernel_rfl)) rfl) ?_
            refine dd_one 4 (.store 34 (.tmp 33) (.tmp 32)) none (by kernel_rfl) (o_heap (U) [(2, ⟨34, 0, (cs_Ratio x_12636.1)⟩), (1, ⟨3, 0, [I s_12614.2]⟩), (0, ⟨34, 2, flat cs_Ratio (setI s_12614.1 s_12614.2 x_12636.1)⟩)] 3 (by kernel_rfl) (hv_store_row (o := s_12614.2.toNat * 2) (b := 0) (y := .agg (cs_Ratio x_12636.1)) (i := s_12614.2.toNat) (j := 0) (k := 2) (s := 2) (c := cs_Ratio) (a' := x_12636.1) (sz := 2) (ty := 34) (fun _ => rfl) (getI_some h_12644).2 rfl (by kernel_rfl) (by kernel_rfl) (by kernel_rfl) (by kernel_rfl) (by kernel_rfl) (by kernel_rfl) (leB rfl) (by kernel_rfl)) rfl) ?_
            refine dd_nil 5 rfl ?_
            refine hK_12632 _ ⟨[(1, sl 4 cs_Debt a2), (6, .own 0 s_12614.1.length), (17, I (x_12464.length : Int)), (18, I s_12614.2)], [(2, ⟨34, 0, (cs_Ratio x_12636.1)⟩), (1, ⟨3, 0, [I s_12614.2]⟩), (0, ⟨34, 2, flat cs_Ratio (setI s_12614.1 s_12614.2 x_12636.1)⟩)], 3⟩ (to_trim (by kernel_rfl) (leB rfl)) ?_
            refine w_reg0 ?_
            refine dd_run 0 2 rfl (by kernel_rfl) ?_
            refine dd_nil 2 rfl ?_
            exact hK_12616 _ _ (Option.some.inj h).symm (to_trans (to_put 6 (leB rfl) (by kernel_rfl) (Sub.of_eq (show AV.own 0 s_12614.1.length = AV.own 0 (setI s_12614.1 s_12614.2 x_12636.1).length by simp [setI]))) (to_ren [] (leB rfl) (by kernel_rfl) (by kernel_rfl) (renE_of (by kernel_rfl) (by kernel_rfl)) ⟨rePl (by kernel_rfl) (leB rfl) (flat_all _ (fun _ => rfl) _), trivial⟩))
        · refine w_exit ?_
          exact hK_12555 _ _ (h_12615 _ (Option.some.inj h).symm).symm (to_ren [] (leB rfl) (by kernel_rfl) (by kernel_rfl) (renE_of (by kernel_rfl) (by kernel_rfl)) ⟨rePl (by kernel_rfl) (leB rfl) (flat_all _ (fun _ => rfl) _), trivial⟩)
    · refine w_reg ⟨[(4, .own 0 e_12553.length), (5, I 0)], [(0, ⟨34, 2, flat cs_Ratio e_12553⟩)], 1⟩ (by kernel_rfl) (leB rfl) ?_
      refine w_ret ?_
      obtain rfl := ((Sum.inr.inj (Option.some.inj h).symm)).symm
      exact ret_leaf (.inl rfl) ⟨[(4, .own 0 e_12553.length), (5, I 0)], [(0, ⟨34, 2, flat cs_Ratio e_12553⟩)], 1⟩ (to_ren [] (leB rfl) (by kernel_rfl) (by kernel_rfl) (renE_of (by kernel_rfl) (by kernel_rfl)) ⟨rePl (by kernel_rfl) (leB rfl) (flat_all _ (fun _ => rfl) _), trivial⟩) [.own 0 e_12553.length, I 0] (by kernel_rfl) (by kernel_rfl) (leB rfl) (by kernel_rfl) ⟨⟨by kernel_rfl, leB rfl, (flat_all _ (fun _ => rfl) _)⟩, trivial⟩
/-- estoppel/netting.Net$2 -/
def g_netting_Net_2 (a1 : Int) (a2 : Int) : Option (Bool) :=
  some (decide (a1 < a2))
set_option maxHeartbeats 4000000 in
theorem g_netting_Net_2_ok {a1 : Int} {a2 : Int} {res : Bool} (h : g_netting_Net_2 a1 a2 = some res) : SpecK Try.prog [] 34 [I a1, I a2] [] 0 (B res) [] 0 := by
  refine ⟨spec_of_wp Try.func34 (by kernel_rfl) rfl Try.ntmps34 (by rw [Try.results34]) (leB rfl) ?_, by kernel_rfl, trivial, by kernel_rfl, trivial, by kernel_rfl⟩
  unfold g_netting_Net_2 at h
  refine w_reg ⟨[(0, I a1), (1, I a2)], [], 0⟩ (by kernel_rfl) (leB rfl) ?_
  refine w_reg ⟨[(4, B (decide (a1 < a2)))], [], 0⟩ (by kernel_rfl) (leB rfl) ?_
  refine w_ret ?_
  obtain rfl := ((Option.some.inj h).symm).symm
  exact ret_leaf (.inl rfl) ⟨[(4, B (decide (a1 < a2)))], [], 0⟩ (to_ren [] (leB rfl) (by kernel_rfl) (by kernel_rfl) (renE_of (by kernel_rfl) (by kernel_rfl)) trivial) [B (decide (a1 < a2))] (by kernel_rfl) (by kernel_rfl) (leB rfl) (by kernel_rfl) trivial
/-- estoppel/netting.Net$1 -/
def g_netting_Net_1_Net_2 (a1 : List D.Ratio) : Option (Int) :=
  bindF (ρ := Int) (
  loopO (σ := Int × Int) (fun s_13585 =>
  if (decide (s_13585.2 < (a1.length : Int))) = true then
  (getI a1 s_13585.2).bind fun x_13637 =>
  (getI a1 s_13585.1).bind fun x_13641 =>
  (g_ratio_Cmp x_13637 x_13641).bind fun x_13643 =>
  (g_netting_Net_2 x_13643 0).bind fun x_13645 =>
  if x_13645 = true then
  some (.inl (s_13585.2, (IntKind.i64.wrap (s_13585.2 + 1))))
  else
  some (.inl (s_13585.1, (IntKind.i64.wrap (s_13585.2 + 1))))
  else
  some (.inr (.inl s_13585.1))) (0, 0)) (fun (e_13399 : Int) =>
  some e_13399)
set_option maxHeartbeats 4000000 in
theorem g_netting_Net_1_Net_2_ok {a1 : List D.Ratio} {res : Int} (h : g_netting_Net_1_Net_2 a1 = some res) : SpecK Try.prog [1] 33 [.fn 34 [], .ptr 0 0] [(0, ⟨24, 0, [.own 1 a1.length]⟩), (1, ⟨34, 2, flat cs_Ratio a1⟩)] 2 (I res) [(0, ⟨24, 0, [.own 1 a1.length]⟩), (1, ⟨34, 2, flat cs_Ratio a1⟩)] 2 := by
  refine ⟨spec_of_wp Try.func33 (by kernel_rfl) rfl Try.ntmps33 (by rw [Try.results33]) (leB rfl) ?_, by kernel_rfl, ⟨⟨leB rfl, by kernel_rfl⟩, ⟨⟨leB rfl, flat_all (AV.keyed 0 4) (fun _ => rfl) _⟩, trivial⟩⟩, by kernel_rfl, ⟨⟨leB rfl, by kernel_rfl⟩, ⟨⟨leB rfl, flat_all (AV.keyed 0 4) (fun _ => rfl) _⟩, trivial⟩⟩, by kernel_rfl⟩
  unfold g_netting_Net_1_Net_2 at h
  refine w_reg ⟨[(0, .fn 34 []), (1, .ptr 0 0)], [(0, ⟨24, 0, [.own 1 a1.length]⟩), (1, ⟨34, 2, flat cs_Ratio a1⟩)], 2⟩ (by kernel_rfl) (leB rfl) ?_
  refine w_reg ⟨[(0, .fn 34 []), (1, .ptr 0 0), (4, I 0)], [(0, ⟨24, 0, [.own 1 a1.length]⟩), (1, ⟨34, 2, flat cs_Ratio a1⟩)], 2⟩ (by kernel_rfl) (leB rfl) ?_
  refine w_assoc ?_
  refine w_reg ⟨[(0, .fn 34 []), (1, .ptr 0 0), (4, I 0), (7, I (a1.length : Int)), (8, I 0)], [(0, ⟨24, 0, [.own 1 a1.length]⟩), (1, ⟨34, 2, flat cs_Ratio a1⟩)], 2⟩ (by kernel_rfl) (leB rfl) ?_
  refine w_cut h (fun (e_13399 : Int) => ⟨[(4, I e_13399)], [(0, ⟨24, 0, [.own 1 a1.length]⟩), (1, ⟨34, 2, flat cs_Ratio a1⟩)], 2⟩) (fun o h h_13400 K hK_13401 => ?_) (fun e_13399 h => ?_)
  · refine w_block ?_
    refine w_loopO h (fun (s_13585 : Int × Int) => ⟨[(0, .fn 34 []), (1, .ptr 0 0), (4, I s_13585.1), (7, I (a1.length : Int)), (8, I s_13585.2)], [(0, ⟨24, 0, [.own 1 a1.length]⟩), (1, ⟨34, 2, flat cs_Ratio a1⟩)], 2⟩) (to_ren [] (leB rfl) (by kernel_rfl) (by kernel_rfl) (renE_of (by kernel_rfl) (by kernel_rfl)) ⟨reRn (by kernel_rfl) (leB rfl) (by kernel_rfl), ⟨rePl (by kernel_rfl) (leB rfl) (flat_all _ (fun _ => rfl) _), trivial⟩⟩) (fun s_13585 o h h_13586 K hK_13587 => ?_)
    · refine w_reg ⟨[(0, .fn 34 []), (1, .ptr 0 0), (4, I s_13585.1), (7, I (a1.length : Int)), (8, I s_13585.2), (9, B (decide (s_13585.2 < (a1.length : Int))))], [(0, ⟨24, 0, [.own 1 a1.length]⟩), (1, ⟨34, 2, flat cs_Ratio a1⟩)], 2⟩ (by kernel_rfl) (leB rfl) ?_
      refine w_seq (fun K hK_13589 => ?_)
      refine w_ite h (by kernel_rfl) (fun h_13590 h => ?_) (fun h_13590 h => ?_)
      · refine w_skip ?_
        refine hK_13589 _ ⟨[(0, .fn 34 []), (1, .ptr 0 0), (4, I s_13585.1), (7, I (a1.length : Int)), (8, I s_13585.2)], [(0, ⟨24, 0, [.own 1 a1.length]⟩), (1, ⟨34, 2, flat cs_Ratio a1⟩)], 2⟩ (to_trim (by kernel_rfl) (leB rfl)) ?_
        refine w_seq (fun K hK_13619 => ?_)
        refine w_block ?_
        refine w_reg ⟨[(0, .fn 34 []), (1, .ptr 0 0), (4, I s_13585.1), (5, I s_13585.2), (7, I (a1.length : Int)), (8, I s_13585.2)], [(0, ⟨24, 0, [.own 1 a1.length]⟩), (1, ⟨34, 2, flat cs_Ratio a1⟩)], 2⟩ (by kernel_rfl) (leB rfl) ?_
        refine w_seq (fun K hK_13634 => w_mix0 (by kernel_rfl) (by kernel_rfl) ?_)
        refine mm_run 0 3 rfl (by kernel_rfl) ?_
        obtain ⟨x_13637, h_13638, h⟩ := bind_some' h
        refine mm_one 3 (.indexAddr 24 (.tmp 12) (.tmp 13)) (some 14) (by kernel_rfl) (by kernel_rfl) (oH_pure (.ptr 1 (s_13585.2.toNat * 2)) (ev_idx_own (N := a1.length) (e := 34) (k := 2) (ik := .i64) h_13638 rfl (by kernel_rfl) (by kernel_rfl) (by kernel_rfl) (by kernel_rfl)) rfl) ?_
        refine mm_one 4 (.load 34 (.tmp 14)) (some 15) (by kernel_rfl) (by kernel_rfl) (oH_pure (.agg (cs_Ratio x_13637)) (ev_load_row (o := s_13585.2.toNat * 2) (b := 1) (i := s_13585.2.toNat) (j := 0) (k := 2) (c := cs_Ratio) (sz := 2) (ty := 34) (fun _ => rfl) (getI_some h_13638).2 rfl (by kernel_rfl) (by kernel_rfl) (by kernel_rfl)) rfl) ?_
        refine mm_run 5 7 rfl (by kernel_rfl) ?_
        obtain ⟨x_13641, h_13642, h⟩ := bind_some' h
        refine mm_one 7 (.indexAddr 24 (.tmp 16) (.tmp 17)) (some 18) (by kernel_rfl) (by kernel_rfl) (oH_pure (.ptr 1 (s_13585.1.toNat * 2)) (ev_idx_own (N := a1.length) (e := 34) (k := 2) (ik := .i64) h_13642 rfl (by kernel_rfl) (by kernel_rfl) (by kernel_rfl) (by kernel_rfl)) rfl) ?_
        refine mm_one 8 (.load 34 (.tmp 18)) (some 19) (by kernel_rfl) (by kernel_rfl) (oH_pure (.agg (cs_Ratio x_13641)) (ev_load_row (o := s_13585.1.toNat * 2) (b := 1) (i := s_13585.1.toNat) (j := 0) (k := 2) (c := cs_Ratio) (sz := 2) (ty := 34) (fun _ => rfl) (getI_some h_13642).2 rfl (by kernel_rfl) (by kernel_rfl) (by kernel_rfl)) rfl) ?_
        obtain ⟨x_13643, h_13644, h⟩ := bind_some' h
        refine mm_one 9 (.call ⟨.value (.func 24), #[(.tmp 15), (.tmp 19)], #[34, 34]⟩) (some 20) (by kernel_rfl) (by kernel_rfl) (oH_callP (g_ratio_Cmp_ok h_13644) (by kernel_rfl) rfl) ?_
        obtain ⟨x_13645, h_13646, h⟩ := bind_some' h
        refine mm_one 10 (.call ⟨.value (.tmp 11), #[(.tmp 20), (.const (.int .i64 (0)))], #[3, 3]⟩) (some 21) (by kernel_rfl) (by kernel_rfl) (oH_callP (g_netting_Net_2_ok h_13646) (by kernel_rfl) rfl) ?_
        refine mix_fin' hK_13634 ⟨[(0, .fn 34 []), (1, .ptr 0 0), (4, I s_13585.1), (5, I s_13585.2), (7, I (a1.length : Int)), (8, I s_13585.2), (21, B x_13645)], [(0, ⟨24, 0, [.own 1 a1.length]⟩), (1, ⟨34, 2, flat cs_Ratio a1⟩)], 2⟩ (by kernel_rfl) (leB rfl) ?_
        refine w_ite h (by kernel_rfl) (fun h_13647 h => ?_) (fun h_13647 h => ?_)
        · refine w_reg0 ?_
          refine dd_run 0 2 rfl (by kernel_rfl) ?_
          refine dd_nil 2 rfl ?_
          refine hK_13619 _ ⟨[(0, .fn 34 []), (1, .ptr 0 0), (4, I s_13585.2), (7, I (a1.length : Int)), (8, I s_13585.2)], [(0, ⟨24, 0, [.own 1 a1.length]⟩), (1, ⟨34, 2, flat cs_Ratio a1⟩)], 2⟩ (to_trim (by kernel_rfl) (leB rfl)) ?_
          refine w_reg0 ?_
          refine dd_run 0 2 rfl (by kernel_rfl) ?_
          refine dd_nil 2 rfl ?_
          exact hK_13587 _ _ (Option.some.inj h).symm (to_ren [] (leB rfl) (by kernel_rfl) (by kernel_rfl) (renE_of (by kernel_rfl) (by kernel_rfl)) ⟨reRn (by kernel_rfl) (leB rfl) (by kernel_rfl), ⟨rePl (by kernel_rfl) (leB rfl) (flat_all _ (fun _ => rfl) _), trivial⟩⟩)
        · refine w_skip ?_
          refine hK_13619 _ ⟨[(0, .fn 34 []), (1, .ptr 0 0), (4, I s_13585.1), (7, I (a1.length : Int)), (8, I s_13585.2)], [(0, ⟨24, 0, [.own 1 a1.length]⟩), (1, ⟨34, 2, flat cs_Ratio a1⟩)], 2⟩ (to_trim (by kernel_rfl) (leB rfl)) ?_
          refine w_reg0 ?_
          refine dd_run 0 2 rfl (by kernel_rfl) ?_
          refine dd_nil 2 rfl ?_
          exact hK_13587 _ _ (Option.some.inj h).symm (to_ren [] (leB rfl) (by kernel_rfl) (by kernel_rfl) (renE_of (by kernel_rfl) (by kernel_rfl)) ⟨reRn (by kernel_rfl) (leB rfl) (by kernel_rfl), ⟨rePl (by kernel_rfl) (leB rfl) (flat_all _ (fun _ => rfl) _), trivial⟩⟩)
      · refine w_exit ?_
        exact hK_13401 _ _ (h_13586 _ (Option.some.inj h).symm).symm (to_ren [] (leB rfl) (by kernel_rfl) (by kernel_rfl) (renE_of (by kernel_rfl) (by kernel_rfl)) ⟨reRn (by kernel_rfl) (leB rfl) (by kernel_rfl), ⟨rePl (by kernel_rfl) (leB rfl) (flat_all _ (fun _ => rfl) _), trivial⟩⟩)
  · refine w_reg ⟨[(3, I e_13399)], [(0, ⟨24, 0, [.own 1 a1.length]⟩), (1, ⟨34, 2, flat cs_Ratio a1⟩)], 2⟩ (by kernel_rfl) (leB rfl) ?_
    refine w_ret ?_
    obtain rfl := ((Option.some.inj h).symm).symm
    exact ret_leaf (.inl rfl) ⟨[(3, I e_13399)], [(0, ⟨24, 0, [.own 1 a1.length]⟩), (1, ⟨34, 2, flat cs_Ratio a1⟩)], 2⟩ (to_ren [] (leB rfl) (by kernel_rfl) (by kernel_rfl) (renE_of (by kernel_rfl) (by kernel_rfl)) ⟨reRn (by kernel_rfl) (leB rfl) (by kernel_rfl), ⟨rePl (by kernel_rfl) (leB rfl) (flat_all _ (fun _ => rfl) _), trivial⟩⟩) [I e_13399] (by kernel_rfl) (by kernel_rfl) (leB rfl) (by kernel_rfl) ⟨⟨by kernel_rfl, leB rfl, (by kernel_rfl)⟩, ⟨⟨by kernel_rfl, leB rfl, (flat_all _ (fun _ => rfl) _)⟩, trivial⟩⟩
/-- estoppel/netting.Net$3 -/
def g_netting_Net_3 (a1 : Int) (a2 : Int) : Option (Bool) :=
  some (decide (a1 > a2))
set_option maxHeartbeats 4000000 in
theorem g_netting_Net_3_ok {a1 : Int} {a2 : Int} {res : Bool} (h : g_netting_Net_3 a1 a2 = some res) : SpecK Try.prog [] 35 [I a1, I a2] [] 0 (B res) [] 0 := by
  refine ⟨spec_of_wp Try.func35 (by kernel_rfl) rfl Try.ntmps35 (by rw [Try.results35]) (leB rfl) ?_, by kernel_rfl, trivial, by kernel_rfl, trivial, by kernel_rfl⟩
  unfold g_netting_Net_3 at h
  refine w_reg ⟨[(0, I a1), (1, I a2)], [], 0⟩ (by kernel_rfl) (leB rfl) ?_
  refine w_reg ⟨[(4, B (decide (a1 > a2)))], [], 0⟩ (by kernel_rfl) (leB rfl) ?_
  refine w_ret ?_
  obtain rfl := ((Option.some.inj h).symm).symm
  exact ret_leaf (.inl rfl) ⟨[(4, B (decide (a1 > a2)))], [], 0⟩ (to_ren [] (leB rfl) (by kernel_rfl) (by kernel_rfl) (renE_of (by kernel_rfl) (by kernel_rfl)) trivial) [B (decide (a1 > a2))] (by kernel_rfl) (by kernel_rfl) (leB rfl) (by kernel_rfl) trivial
/-- estoppel/netting.Net$1 -/
def g_netting_Net_1_Net_3 (a1 : List D.Ratio) : Option (Int) :=
  bindF (ρ := Int) (
  loopO (σ := Int × Int) (fun s_14573 =>
  if (decide (s_14573.2 < (a1.length : Int))) = true then
  (getI a1 s_14573.2).bind fun x_14625 =>
  (getI a1 s_14573.1).bind fun x_14629 =>
  (g_ratio_Cmp x_14625 x_14629).bind fun x_14631 =>
  (g_netting_Net_3 x_14631 0).bind fun x_14633 =>
  if x_14633 = true then
  some (.inl (s_14573.2, (IntKind.i64.wrap (s_14573.2 + 1))))
  else
  some (.inl (s_14573.1, (IntKind.i64.wrap (s_14573.2 + 1))))
  else
  some (.inr (.inl s_14573.1))) (0, 0)) (fun (e_14387 : Int) =>
  some e_14387)
set_option maxHeartbeats 4000000 in
theorem g_netting_Net_1_Net_3_ok {a1 : List D.Ratio} {res : Int} (h : g_netting_Net_1_Net_3 a1 = some res) : SpecK Try.prog [1] 33 [.fn 35 [], .ptr 0 0] [(0, ⟨24, 0, [.own 1 a1.length]⟩), (1, ⟨34, 2, flat cs_Ratio a1⟩)] 2 (I res) [(0, ⟨24, 0, [.own 1 a1.length]⟩), (1, ⟨34, 2, flat cs_Ratio a1⟩)] 2 := by
  refine ⟨spec_of_wp Try.func33 (by kernel_rfl) rfl Try.ntmps33 (by rw [Try.results33]) (leB rfl) ?_, by kernel_rfl, ⟨⟨leB rfl, by kernel_rfl⟩, ⟨⟨leB rfl, flat_all (AV.keyed 0 4) (fun _ => rfl) _⟩, trivial⟩⟩, by kernel_rfl, ⟨⟨leB rfl, by kernel_rfl⟩, ⟨⟨leB rfl, flat_all (AV.keyed 0 4) (fun _ => rfl) _⟩, trivial⟩⟩, by kernel_rfl⟩
  unfold g_netting_Net_1_Net_3 at h
  refine w_reg ⟨[(0, .fn 35 []), (1, .ptr 0 0)], [(0, ⟨24, 0, [.own 1 a1.length]⟩), (1, ⟨34, 2, flat cs_Ratio a1⟩)], 2⟩ (by kernel_rfl) (leB rfl) ?_
  refine w_reg ⟨[(0, .fn 35 []), (1, .ptr 0 0), (4, I 0)], [(0, ⟨24, 0, [.own 1 a1.length]⟩), (1, ⟨34, 2, flat cs_Ratio a1⟩)], 2⟩ (by kernel_rfl) (leB rfl) ?_
  refine w_assoc ?_
  refine w_reg ⟨[(0, .fn 35 []), (1, .ptr 0 0), (4, I 0), (7, I (a1.length : Int)), (8, I 0)], [(0, ⟨24, 0, [.own 1 a1.length]⟩), (1, ⟨34, 2, flat cs_Ratio a1⟩)], 2⟩ (by kernel_rfl) (leB rfl) ?_
  refine w_cut h (fun (e_14387 : Int) => ⟨[(4, I e_14387)], [(0, ⟨24, 0, [.own 1 a1.length]⟩), (1, ⟨34, 2, flat cs_Ratio a1⟩)], 2⟩) (fun o h h_14388 K hK_14389 => ?_) (fun e_14387 h => ?_)
  · refine w_block ?_
    refine w_loopO h (fun (s_14573 : Int × Int) => ⟨[(0, .fn 35 []), (1, .ptr 0 0), (4, I s_14573.1), (7, I (a1.length : Int)), (8, I s_14573.2)], [(0, ⟨24, 0, [.own 1 a1.length]⟩), (1, ⟨34, 2, flat cs_Ratio a1⟩)], 2⟩) (to_ren [] (leB rfl) (by kernel_rfl) (by kernel_rfl) (renE_of (by kernel_rfl) (by kernel_rfl)) ⟨reRn (by kernel_rfl) (leB rfl) (by kernel_rfl), ⟨rePl (by kernel_rfl) (leB rfl) (flat_all _ (fun _ => rfl) _), trivial⟩⟩) (fun s_14573 o h h_14574 K hK_14575 => ?_)
    · refine w_reg ⟨[(0, .fn 35 []), (1, .ptr 0 0), (4, I s_14573.1), (7, I (a1.length : Int)), (8, I s_14573.2), (9, B (decide (s_14573.2 < (a1.length : Int))))], [(0, ⟨24, 0, [.own 1 a1.length]⟩), (1, ⟨34, 2, flat cs_Ratio a1⟩)], 2⟩ (by kernel_rfl) (leB rfl) ?_
      refine w_seq (fun K hK_14577 => ?_)
      refine w_ite h (by kernel_rfl) (fun h_14578 h => ?_) (fun h_14578 h => ?_)
      · refine w_skip ?_
        refine hK_14577 _ ⟨[(0, .fn 35 []), (1, .ptr 0 0), (4, I s_14573.1), (7, I (a1.length : Int)), (8, I s_14573.2)], [(0, ⟨24, 0, [.own 1 a1.length]⟩), (1, ⟨34, 2, flat cs_Ratio a1⟩)], 2⟩ (to_trim (by kernel_rfl) (leB rfl)) ?_
        refine w_seq (fun K hK_14607 => ?_)
        refine w_block ?_
        refine w_reg ⟨[(0, .fn 35 []), (1, .ptr 0 0), (4, I s_14573.1), (5, I s_14573.2), (7, I (a1.length : Int)), (8, I s_14573.2)], [(0, ⟨24, 0, [.own 1 a1.length]⟩), (1, ⟨34, 2, flat cs_Ratio a1⟩)], 2⟩ (by kernel_rfl) (leB rfl) ?_
        refine w_seq (fun K hK_14622 => w_mix0 (by kernel_rfl) (by kernel_rfl) ?_)
        refine mm_run 0 3 rfl (by kernel_rfl) ?_
        obtain ⟨x_14625, h_14626, h⟩ := bind_some' h
        refine mm_one 3 (.indexAddr 24 (.tmp 12) (.tmp 13)) (some 14) (by kernel_rfl) (by kernel_rfl) (oH_pure (.ptr 1 (s_14573.2.toNat * 2)) (ev_idx_own (N := a1.length) (e := 34) (k := 2) (ik := .i64) h_14626 rfl (by kernel_rfl) (by kernel_rfl) (by kernel_rfl) (by kernel_rfl)) rfl) ?_
        refine mm_one 4 (.load 34 (.tmp 14)) (some 15) (by kernel_rfl) (by kernel_rfl) (oH_pure (.agg (cs_Ratio x_14625)) (ev_load_row (o := s_14573.2.toNat * 2) (b := 1) (i := s_14573.2.toNat) (j := 0) (k := 2) (c := cs_Ratio) (sz := 2) (ty := 34) (fun _ => rfl) (getI_some h_14626).2 rfl (by kernel_rfl) (by kernel_rfl) (by kernel_rfl)) rfl) ?_
        refine mm_run 5 7 rfl (by kernel_rfl) ?_
        obtain ⟨x_14629, h_14630, h⟩ := bind_some' h
        refine mm_one 7 (.indexAddr 24 (.tmp 16) (.tmp 17)) (some 18) (by kernel_rfl) (by kernel_rfl) (oH_pure (.ptr 1 (s_14573.1.toNat * 2)) (ev_idx_own (N := a1.length) (e := 34) (k := 2) (ik := .i64) h_14630 rfl (by kernel_rfl) (by kernel_rfl) (by kernel_rfl) (by kernel_rfl)) rfl) ?_
        refine mm_one 8 (.load 34 (.tmp 18)) (some 19) (by kernel_rfl) (by kernel_rfl) (oH_pure (.agg (cs_Ratio x_14629)) (ev_load_row (o := s_14573.1.toNat * 2) (b := 1) (i := s_14573.1.toNat) (j := 0) (k := 2) (c := cs_Ratio) (sz := 2) (ty := 34) (fun _ => rfl) (getI_some h_14630).2 rfl (by kernel_rfl) (by kernel_rfl) (by kernel_rfl)) rfl) ?_
        obtain ⟨x_14631, h_14632, h⟩ := bind_some' h
        refine mm_one 9 (.call ⟨.value (.func 24), #[(.tmp 15), (.tmp 19)], #[34, 34]⟩) (some 20) (by kernel_rfl) (by kernel_rfl) (oH_callP (g_ratio_Cmp_ok h_14632) (by kernel_rfl) rfl) ?_
        obtain ⟨x_14633, h_14634, h⟩ := bind_some' h
        refine mm_one 10 (.call ⟨.value (.tmp 11), #[(.tmp 20), (.const (.int .i64 (0)))], #[3, 3]⟩) (some 21) (by kernel_rfl) (by kernel_rfl) (oH_callP (g_netting_Net_3_ok h_14634) (by kernel_rfl) rfl) ?_
        refine mix_fin' hK_14622 ⟨[(0, .fn 35 []), (1, .ptr 0 0), (4, I s_14573.1), (5, I s_14573.2), (7, I (a1.length : Int)), (8, I s_14573.2), (21, B x_14633)], [(0, ⟨24, 0, [.own 1 a1.length]⟩), (1, ⟨34, 2, flat cs_Ratio a1⟩)], 2⟩ (by kernel_rfl) (leB rfl) ?_
        refine w_ite h (by kernel_rfl) (fun h_14635 h => ?_) (fun h_14635 h => ?_)
        · refine w_reg0 ?_
          refine dd_run 0 2 rfl (by kernel_rfl) ?_
          refine dd_nil 2 rfl ?_
          refine hK_14607 _ ⟨[(0, .fn 35 []), (1, .ptr 0 0), (4, I s_14573.2), (7, I (a1.length : Int)), (8, I s_14573.2)], [(0, ⟨24, 0, [.own 1 a1.length]⟩), (1, ⟨34, 2, flat cs_Ratio a1⟩)], 2⟩ (to_trim (by kernel_rfl) (leB rfl)) ?_
          refine w_reg0 ?_
          refine dd_run 0 2 rfl (by kernel_rfl) ?_
          refine dd_nil 2 rfl ?_
          exact hK_14575 _ _ (Option.some.inj h).symm (to_ren [] (leB rfl) (by kernel_rfl) (by kernel_rfl) (renE_of (by kernel_rfl) (by kernel_rfl)) ⟨reRn (by kernel_rfl) (leB rfl) (by kernel_rfl), ⟨rePl (by kernel_rfl) (leB rfl) (flat_all _ (fun _ => rfl) _), trivial⟩⟩)
        · refine w_skip ?_
          refine hK_14607 _ ⟨[(0, .fn 35 []), (1, .ptr 0 0), (4, I s_14573.1), (7, I (a1.length : Int)), (8, I s_14573.2)], [(0, ⟨24, 0, [.own 1 a1.length]⟩), (1, ⟨34, 2, flat cs_Ratio a1⟩)], 2⟩ (to_trim (by kernel_rfl) (leB rfl)) ?_
          refine w_reg0 ?_
          refine dd_run 0 2 rfl (by kernel_rfl) ?_
          refine dd_nil 2 rfl ?_
          exact hK_14575 _ _ (Option.some.inj h).symm (to_ren [] (leB rfl) (by kernel_rfl) (by kernel_rfl) (renE_of (by kernel_rfl) (by kernel_rfl)) ⟨reRn (by kernel_rfl) (leB rfl) (by kernel_rfl), ⟨rePl (by kernel_rfl) (leB rfl) (flat_all _ (fun _ => rfl) _), trivial⟩⟩)
      · refine w_exit ?_
        exact hK_14389 _ _ (h_14574 _ (Option.some.inj h).symm).symm (to_ren [] (leB rfl) (by kernel_rfl) (by kernel_rfl) (renE_of (by kernel_rfl) (by kernel_rfl)) ⟨reRn (by kernel_rfl) (leB rfl) (by kernel_rfl), ⟨rePl (by kernel_rfl) (leB rfl) (flat_all _ (fun _ => rfl) _), trivial⟩⟩)
  · refine w_reg ⟨[(3, I e_14387)], [(0, ⟨24, 0, [.own 1 a1.length]⟩), (1, ⟨34, 2, flat cs_Ratio a1⟩)], 2⟩ (by kernel_rfl) (leB rfl) ?_
    refine w_ret ?_
    obtain rfl := ((Option.some.inj h).symm).symm
    exact ret_leaf (.inl rfl) ⟨[(3, I e_14387)], [(0, ⟨24, 0, [.own 1 a1.length]⟩), (1, ⟨34, 2, flat cs_Ratio a1⟩)], 2⟩ (to_ren [] (leB rfl) (by kernel_rfl) (by kernel_rfl) (renE_of (by kernel_rfl) (by kernel_rfl)) ⟨reRn (by kernel_rfl) (leB rfl) (by kernel_rfl), ⟨rePl (by kernel_rfl) (leB rfl) (flat_all _ (fun _ => rfl) _), trivial⟩⟩) [I e_14387] (by kernel_rfl) (by kernel_rfl) (leB rfl) (by kernel_rfl) ⟨⟨by kernel_rfl, leB rfl, (by kernel_rfl)⟩, ⟨⟨by kernel_rfl, leB rfl, (flat_all _ (fun _ => rfl) _)⟩, trivial⟩⟩
end Go.Proofs.Ytgggekjhfdkgkaa.Ab
