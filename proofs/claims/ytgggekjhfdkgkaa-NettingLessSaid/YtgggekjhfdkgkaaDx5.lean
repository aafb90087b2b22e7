/- Functions of the program as plain functions (printed by wip/dec.py). -/
import Derived.Test.YtgggekjhfdkgkaaDx1
import Derived.Test.YtgggekjhfdkgkaaDx3
import Derived.Test.YtgggekjhfdkgkaaDx4
namespace Go.Proofs.Ytgggekjhfdkgkaa.Ab
open Go Go.RowKit Go.Shelf
/-- estoppel/netting.Pairs -/
def g_netting_Pairs (a1 : Int) (a2 : List D.Debt) : Option (List D.Debt × Int) :=
  (g_netting_Valid a1 a2).bind fun x_8102 =>
  if (!x_8102) = true then
  some ([], 1)
  else
  bindF (ρ := List D.Ratio) (
  loopO (σ := List D.Ratio × Int) (fun s_9265 =>
  if (decide (s_9265.2 < a1)) = true then
  loopO (σ := List D.Ratio × Int) (fun s_9459 =>
  if (decide (s_9459.2 < a1)) = true then
  (g_netting_sum_Pairs_1 a2 s_9265.2 s_9459.2).bind fun x_9485 =>
  if (x_9485.2 != 0) = true then
  some (.inr (.inr (.inr ([], x_9485.2))))
  else
  (rngO s_9265.2 12).bind fun _ =>
  (rngO s_9459.2 12).bind fun _ =>
  (getI s_9459.1 (s_9265.2 * 12 + s_9459.2)).bind fun x_9495 =>
  some (.inl ((setI s_9459.1 (s_9265.2 * 12 + s_9459.2) x_9485.1), (IntKind.i64.wrap (s_9459.2 + 1))))
  else
  some (.inr (.inl (s_9459.1, (IntKind.i64.wrap (s_9265.2 + 1)))))) (s_9265.1, (IntKind.i64.wrap (s_9265.2 + 1)))
  else
  some (.inr (.inl s_9265.1))) ((List.replicate 144 (D.Ratio.mk 0 0)), 0)) (fun (e_8800 : List D.Ratio) =>
  (lenO e_8800 144).bind fun _ =>
  bindF (ρ := List D.Debt) (
  loopO (σ := List D.Debt × Int) (fun s_11624 =>
  if (decide (s_11624.2 < 12)) = true then
  (rngO s_11624.2 12).bind fun _ =>
  (lenO e_8800 144).bind fun _ =>
  (lenO (List.replicate 12 (D.Ratio.mk 0 0)) 12).bind fun _ =>
  (lenO ((e_8800.drop (s_11624.2.toNat * 12)).take 12) 12).bind fun _ =>
  (lenO ((e_8800.drop (s_11624.2.toNat * 12)).take 12) 12).bind fun _ =>
  loopO (σ := List D.Debt × Int) (fun s_11988 =>
  if (decide (s_11988.2 < 12)) = true then
  (getI ((e_8800.drop (s_11624.2.toNat * 12)).take 12) s_11988.2).bind fun x_12036 =>
  (lenO ((e_8800.drop (s_11624.2.toNat * 12)).take 12) 12).bind fun _ =>
  if (decide (x_12036.Num > 0)) = true then
  (appO 32 s_11988.1 [(D.Debt.mk s_11624.2 s_11988.2 x_12036)]).bind fun x_12042 =>
  some (.inl (x_12042, (IntKind.i64.wrap (s_11988.2 + 1))))
  else
  if (decide (x_12036.Num < 0)) = true then
  (g_netting_minus x_12036).bind fun x_12045 =>
  (appO 32 s_11988.1 [(D.Debt.mk s_11988.2 s_11624.2 x_12045)]).bind fun x_12049 =>
  some (.inl (x_12049, (IntKind.i64.wrap (s_11988.2 + 1))))
  else
  some (.inl (s_11988.1, (IntKind.i64.wrap (s_11988.2 + 1))))
  else
  some (.inr (.inl (s_11988.1, (IntKind.i64.wrap (s_11624.2 + 1)))))) (s_11624.1, 0)
  else
  some (.inr (.inl s_11624.1))) ([], 0)) (fun (e_10775 : List D.Debt) =>
  some (e_10775, 0)))
set_option maxHeartbeats 4000000 in
theorem g_netting_Pairs_ok {a1 : Int} {a2 : List D.Debt} {res : List D.Debt × Int} (h : g_netting_Pairs a1 a2 = some res) : SpecK Try.prog [] 12 [I a1, sl 4 cs_Debt a2] [] 0 (.tup [sl 4 cs_Debt res.1, I res.2]) [] 0 := by
  refine ⟨spec_of_wp Try.func12 (by kernel_rfl) rfl Try.ntmps12 (by rw [Try.results12]) (leB rfl) ?_, by kernel_rfl, trivial, by kernel_rfl, trivial, by kernel_rfl⟩
  unfold g_netting_Pairs at h
  refine w_reg ⟨[(0, I a1), (1, sl 4 cs_Debt a2)], [], 0⟩ (by kernel_rfl) (leB rfl) ?_
  refine w_assoc ?_
  refine w_seq (fun K hK_8101 => w_reg0 ?_)
  refine dd_run 0 2 rfl (by kernel_rfl) ?_
  obtain ⟨x_8102, h_8103, h⟩ := bind_some' h
  refine dd_one 2 (.call ⟨.value (.func 16), #[(.tmp 16), (.tmp 17)], #[3, 22]⟩) (some 18) (by kernel_rfl) (o_callP (g_netting_Valid_ok h_8103) (by kernel_rfl) rfl) ?_
  refine ops_fin' hK_8101 ⟨[(0, I a1), (1, sl 4 cs_Debt a2), (19, B (!x_8102))], [], 0⟩ (by kernel_rfl) (leB rfl) ?_
  refine w_seq (fun K hK_8105 => ?_)
  refine w_ite h (by kernel_rfl) (fun h_8106 h => ?_) (fun h_8106 h => ?_)
  · refine w_reg ⟨[(4, Nl), (5, I 1)], [], 0⟩ (by kernel_rfl) (leB rfl) ?_
    refine w_ret ?_
    obtain rfl := ((Option.some.inj h).symm).symm
    exact ret_leaf (.inl rfl) ⟨[(4, sl 4 cs_Debt []), (5, I 1)], [], 0⟩ (to_trans (to_put 4 (leB rfl) (by kernel_rfl) (Sub.nil 4)) (to_ren [] (leB rfl) (by kernel_rfl) (by kernel_rfl) (renE_of (by kernel_rfl) (by kernel_rfl)) trivial)) [sl 4 cs_Debt [], I 1] (by kernel_rfl) (by kernel_rfl) (leB rfl) (by kernel_rfl) trivial
  · refine w_skip ?_
    refine hK_8105 _ ⟨[(0, I a1), (1, sl 4 cs_Debt a2)], [], 0⟩ (to_trim (by kernel_rfl) (leB rfl)) ?_
    refine w_reg ⟨[(0, I a1), (1, sl 4 cs_Debt a2), (6, .ptr 0 0)], [(0, ⟨49, 0, (flat cs_Ratio (List.replicate 144 (D.Ratio.mk 0 0)))⟩)], 1⟩ (by kernel_rfl) (leB rfl) ?_
    refine w_assoc ?_
    refine w_reg ⟨[(0, I a1), (1, sl 4 cs_Debt a2), (6, .ptr 0 0), (20, I a1), (21, I 0)], [(0, ⟨49, 0, (flat cs_Ratio (List.replicate 144 (D.Ratio.mk 0 0)))⟩)], 1⟩ (by kernel_rfl) (leB rfl) ?_
    refine w_cut h (fun (e_8800 : List D.Ratio) => ⟨[(6, .ptr 0 0)], [(0, ⟨49, 0, (flat cs_Ratio e_8800)⟩)], 1⟩) (fun o h h_8801 K hK_8802 => ?_) (fun e_8800 h => ?_)
    · refine w_block ?_
      refine w_loopO h (fun (s_9265 : List D.Ratio × Int) => ⟨[(0, I a1), (1, sl 4 cs_Debt a2), (6, .ptr 0 0), (20, I a1), (21, I s_9265.2)], [(0, ⟨49, 0, (flat cs_Ratio s_9265.1)⟩)], 1⟩) (to_ren [] (leB rfl) (by kernel_rfl) (by kernel_rfl) (renE_of (by kernel_rfl) (by kernel_rfl)) ⟨rePl (by kernel_rfl) (leB rfl) (flat_all _ (fun _ => rfl) _), trivial⟩) (fun s_9265 o h h_9266 K hK_9267 => ?_)
      · refine w_reg ⟨[(0, I a1), (1, sl 4 cs_Debt a2), (6, .ptr 0 0), (20, I a1), (21, I s_9265.2), (22, B (decide (s_9265.2 < a1)))], [(0, ⟨49, 0, (flat cs_Ratio s_9265.1)⟩)], 1⟩ (by kernel_rfl) (leB rfl) ?_
        refine w_seq (fun K hK_9269 => ?_)
        refine w_ite h (by kernel_rfl) (fun h_9270 h => ?_) (fun h_9270 h => ?_)
        · refine w_skip ?_
          refine hK_9269 _ ⟨[(0, I a1), (1, sl 4 cs_Debt a2), (6, .ptr 0 0), (20, I a1), (21, I s_9265.2)], [(0, ⟨49, 0, (flat cs_Ratio s_9265.1)⟩)], 1⟩ (to_trim (by kernel_rfl) (leB rfl)) ?_
          refine w_seq (fun K hK_9384 => ?_)
          refine w_block ?_
          refine w_reg ⟨[(0, I a1), (1, sl 4 cs_Debt a2), (6, .ptr 0 0), (7, .ptr 1 0), (20, I a1), (21, I s_9265.2)], [(1, ⟨3, 0, [I s_9265.2]⟩), (0, ⟨49, 0, (flat cs_Ratio s_9265.1)⟩)], 2⟩ (by kernel_rfl) (leB rfl) ?_
          refine w_reg ⟨[(0, I a1), (1, sl 4 cs_Debt a2), (6, .ptr 0 0), (7, .ptr 1 0), (8, .ptr 2 0), (20, I a1), (21, I s_9265.2)], [(2, ⟨3, 0, [I (IntKind.i64.wrap (s_9265.2 + 1))]⟩), (1, ⟨3, 0, [I s_9265.2]⟩), (0, ⟨49, 0, (flat cs_Ratio s_9265.1)⟩)], 3⟩ (by kernel_rfl) (leB rfl) ?_
          refine w_block ?_
          refine w_loopO h (fun (s_9459 : List D.Ratio × Int) => ⟨[(0, I a1), (1, sl 4 cs_Debt a2), (6, .ptr 0 0), (7, .ptr 1 0), (8, .ptr 2 0), (20, I a1), (21, I s_9265.2)], [(0, ⟨49, 0, (flat cs_Ratio s_9459.1)⟩), (1, ⟨3, 0, [I s_9265.2]⟩), (2, ⟨3, 0, [I s_9459.2]⟩)], 3⟩) (to_ren [] (leB rfl) (by kernel_rfl) (by kernel_rfl) (renE_of (by kernel_rfl) (by kernel_rfl)) ⟨rePl (by kernel_rfl) (leB rfl) (flat_all _ (fun _ => rfl) _), ⟨reRn (by kernel_rfl) (leB rfl) (by kernel_rfl), ⟨reRn (by kernel_rfl) (leB rfl) (by kernel_rfl), trivial⟩⟩⟩) (fun s_9459 o h h_9460 K hK_9461 => ?_)
          · refine w_assoc ?_
            refine w_reg ⟨[(0, I a1), (1, sl 4 cs_Debt a2), (6, .ptr 0 0), (7, .ptr 1 0), (8, .ptr 2 0), (20, I a1), (21, I s_9265.2), (28, B (decide (s_9459.2 < a1)))], [(0, ⟨49, 0, (flat cs_Ratio s_9459.1)⟩), (1, ⟨3, 0, [I s_9265.2]⟩), (2, ⟨3, 0, [I s_9459.2]⟩)], 3⟩ (by kernel_rfl) (leB rfl) ?_
            refine w_seq (fun K hK_9463 => ?_)
            refine w_ite h (by kernel_rfl) (fun h_9464 h => ?_) (fun h_9464 h => ?_)
            · refine w_skip ?_
              refine hK_9463 _ ⟨[(0, I a1), (1, sl 4 cs_Debt a2), (6, .ptr 0 0), (7, .ptr 1 0), (8, .ptr 2 0), (20, I a1), (21, I s_9265.2)], [(0, ⟨49, 0, (flat cs_Ratio s_9459.1)⟩), (1, ⟨3, 0, [I s_9265.2]⟩), (2, ⟨3, 0, [I s_9459.2]⟩)], 3⟩ (to_trim (by kernel_rfl) (leB rfl)) ?_
              refine w_seq (fun K hK_9481 => ?_)
              refine w_block ?_
              refine w_seq (fun K hK_9484 => w_reg0 ?_)
              refine dd_run 0 2 rfl (by kernel_rfl) ?_
              obtain ⟨x_9485, h_9486, h⟩ := bind_some' h
              refine dd_one 2 (.call ⟨.value (.func 26), #[(.tmp 32), (.tmp 33)], #[22, 45]⟩) (some 34) (by kernel_rfl) (o_callE [1, 2] (g_netting_sum_Pairs_1_ok h_9486) (by kernel_rfl) (by kernel_rfl) (by kernel_rfl) rfl) ?_
              refine ops_fin' hK_9484 ⟨[(0, I a1), (1, sl 4 cs_Debt a2), (6, .ptr 0 0), (7, .ptr 1 0), (8, .ptr 2 0), (9, .ptr 3 0), (10, I x_9485.2), (20, I a1), (21, I s_9265.2)], [(3, ⟨34, 0, (cs_Ratio x_9485.1)⟩), (1, ⟨3, 0, [I s_9265.2]⟩), (2, ⟨3, 0, [I s_9459.2]⟩), (0, ⟨49, 0, (flat cs_Ratio s_9459.1)⟩)], 4⟩ (by kernel_rfl) (leB rfl) ?_
              refine w_assoc ?_
              refine w_reg ⟨[(0, I a1), (1, sl 4 cs_Debt a2), (6, .ptr 0 0), (7, .ptr 1 0), (8, .ptr 2 0), (9, .ptr 3 0), (10, I x_9485.2), (20, I a1), (21, I s_9265.2), (38, B (x_9485.2 != 0))], [(3, ⟨34, 0, (cs_Ratio x_9485.1)⟩), (1, ⟨3, 0, [I s_9265.2]⟩), (2, ⟨3, 0, [I s_9459.2]⟩), (0, ⟨49, 0, (flat cs_Ratio s_9459.1)⟩)], 4⟩ (by kernel_rfl) (leB rfl) ?_
              refine w_seq (fun K hK_9488 => ?_)
              refine w_ite h (by kernel_rfl) (fun h_9489 h => ?_) (fun h_9489 h => ?_)
              · refine w_reg ⟨[(4, Nl), (5, I x_9485.2)], [(3, ⟨34, 0, (cs_Ratio x_9485.1)⟩), (1, ⟨3, 0, [I s_9265.2]⟩), (2, ⟨3, 0, [I s_9459.2]⟩), (0, ⟨49, 0, (flat cs_Ratio s_9459.1)⟩)], 4⟩ (by kernel_rfl) (leB rfl) ?_
                refine w_ret ?_
                obtain rfl := ((h_8801 _ (h_9266 _ (h_9460 _ (Option.some.inj h).symm).symm).symm).symm).symm
                exact ret_leaf (.inl rfl) ⟨[(4, sl 4 cs_Debt []), (5, I x_9485.2)], [], 0⟩ (to_trans (to_put 4 (leB rfl) (by kernel_rfl) (Sub.nil 4)) (to_ren [] (leB rfl) (by kernel_rfl) (by kernel_rfl) (renE_of (by kernel_rfl) (by kernel_rfl)) trivial)) [sl 4 cs_Debt [], I x_9485.2] (by kernel_rfl) (by kernel_rfl) (leB rfl) (by kernel_rfl) trivial
              · refine w_skip ?_
                refine hK_9488 _ ⟨[(0, I a1), (1, sl 4 cs_Debt a2), (6, .ptr 0 0), (7, .ptr 1 0), (8, .ptr 2 0), (9, .ptr 3 0), (20, I a1), (21, I s_9265.2)], [(3, ⟨34, 0, (cs_Ratio x_9485.1)⟩), (1, ⟨3, 0, [I s_9265.2]⟩), (2, ⟨3, 0, [I s_9459.2]⟩), (0, ⟨49, 0, (flat cs_Ratio s_9459.1)⟩)], 4⟩ (to_trim (by kernel_rfl) (leB rfl)) ?_
                refine w_mix0 (by kernel_rfl) (by kernel_rfl) ?_
                refine mm_run 0 3 rfl (by kernel_rfl) ?_
                obtain ⟨_, h_9491, h⟩ := bind_some' h; replace h_9491 := rngO_some h_9491
                refine mm_one 3 (.indexAddr 49 (.tmp 6) (.tmp 40)) (some 43) (by kernel_rfl) (by kernel_rfl) (oH_pure (.ptr 0 (s_9265.2.toNat * 24)) (ev_idx_sub (N := 12) (e := 47) (k := 24) (ik := .i64) h_9491 (by kernel_rfl) (by kernel_rfl) (by kernel_rfl) (by kernel_rfl)) rfl) ?_
                obtain ⟨_, h_9497, h⟩ := bind_some' h; replace h_9497 := rngO_some h_9497
                obtain ⟨x_9495, h_9496, h⟩ := bind_some' h
                refine mm_one 4 (.indexAddr 47 (.tmp 43) (.tmp 41)) (some 44) (by kernel_rfl) (by kernel_rfl) (oH_pure (.ptr 0 (s_9265.2.toNat * 24 + s_9459.2.toNat * 2)) (ev_idx_at (b := 0) (o := s_9265.2.toNat * 24) (N := 12) (e := 34) (k := 2) (ik := .i64) h_9497 (by kernel_rfl) (by kernel_rfl) (by kernel_rfl) (by kernel_rfl)) rfl) ?_
                refine mm_ops 5 (.store 34 (.tmp 44) (.tmp 42)) none none (by kernel_rfl) (by kernel_rfl) ?_
                refine dd_one 5 (.store 34 (.tmp 44) (.tmp 42)) none (by kernel_rfl) (o_heap (U) [(3, ⟨34, 0, (cs_Ratio x_9485.1)⟩), (1, ⟨3, 0, [I s_9265.2]⟩), (2, ⟨3, 0, [I s_9459.2]⟩), (0, ⟨49, 0, (flat cs_Ratio (setI s_9459.1 (s_9265.2 * 12 + s_9459.2) x_9485.1))⟩)] 4 (by kernel_rfl) (hv_store_row (o := s_9265.2.toNat * 24 + s_9459.2.toNat * 2) (b := 0) (y := .agg (cs_Ratio x_9485.1)) (i := (s_9265.2 * 12 + s_9459.2).toNat) (j := 0) (k := 2) (s := 2) (c := cs_Ratio) (a' := x_9485.1) (sz := 0) (ty := 49) (fun _ => rfl) (getI_some h_9496).2 (by have := h_9491; have := h_9497; omega) (by kernel_rfl) (by kernel_rfl) (by kernel_rfl) (by kernel_rfl) (by kernel_rfl) (by kernel_rfl) (leB rfl) (by kernel_rfl)) rfl) ?_
                refine dd_nil 6 rfl ?_
                refine hK_9481 _ ⟨[(0, I a1), (1, sl 4 cs_Debt a2), (6, .ptr 0 0), (7, .ptr 1 0), (8, .ptr 2 0), (20, I a1), (21, I s_9265.2)], [(3, ⟨34, 0, (cs_Ratio x_9485.1)⟩), (1, ⟨3, 0, [I s_9265.2]⟩), (2, ⟨3, 0, [I s_9459.2]⟩), (0, ⟨49, 0, (flat cs_Ratio (setI s_9459.1 (s_9265.2 * 12 + s_9459.2) x_9485.1))⟩)], 4⟩ (to_trim (by kernel_rfl) (leB rfl)) ?_
                refine w_assoc ?_
                refine w_reg ⟨[(0, I a1), (1, sl 4 cs_Debt a2), (6, .ptr 0 0), (7, .ptr 1 0), (20, I a1), (21, I s_9265.2), (45, I s_9459.2)], [(3, ⟨34, 0, (cs_Ratio x_9485.1)⟩), (1, ⟨3, 0, [I s_9265.2]⟩), (2, ⟨3, 0, [I s_9459.2]⟩), (0, ⟨49, 0, (flat cs_Ratio (setI s_9459.1 (s_9265.2 * 12 + s_9459.2) x_9485.1))⟩)], 4⟩ (by kernel_rfl) (leB rfl) ?_
                refine w_reg ⟨[(0, I a1), (1, sl 4 cs_Debt a2), (6, .ptr 0 0), (7, .ptr 1 0), (8, .ptr 4 0), (20, I a1), (21, I s_9265.2)], [(4, ⟨3, 0, [I s_9459.2]⟩), (3, ⟨34, 0, (cs_Ratio x_9485.1)⟩), (1, ⟨3, 0, [I s_9265.2]⟩), (2, ⟨3, 0, [I s_9459.2]⟩), (0, ⟨49, 0, (flat cs_Ratio (setI s_9459.1 (s_9265.2 * 12 + s_9459.2) x_9485.1))⟩)], 5⟩ (by kernel_rfl) (leB rfl) ?_
                refine w_reg0 ?_
                refine dd_run 0 3 rfl (by kernel_rfl) ?_
                refine dd_nil 3 rfl ?_
                exact hK_9461 _ _ (Option.some.inj h).symm (to_ren [(2, 4)] (leB rfl) (by kernel_rfl) (by kernel_rfl) (renE_of (by kernel_rfl) (by kernel_rfl)) ⟨rePl (by kernel_rfl) (leB rfl) (flat_all _ (fun _ => rfl) _), ⟨reRn (by kernel_rfl) (leB rfl) (by kernel_rfl), ⟨reRn (by kernel_rfl) (leB rfl) (by kernel_rfl), trivial⟩⟩⟩)
            · refine w_exit ?_
              refine hK_9384 _ ⟨[(0, I a1), (1, sl 4 cs_Debt a2), (6, .ptr 0 0), (20, I a1), (21, I s_9265.2)], [(0, ⟨49, 0, (flat cs_Ratio s_9459.1)⟩), (1, ⟨3, 0, [I s_9265.2]⟩), (2, ⟨3, 0, [I s_9459.2]⟩)], 3⟩ (to_trim (by kernel_rfl) (leB rfl)) ?_
              refine w_reg0 ?_
              refine dd_run 0 2 rfl (by kernel_rfl) ?_
              refine dd_nil 2 rfl ?_
              exact hK_9267 _ _ (h_9460 _ (Option.some.inj h).symm).symm (to_ren [] (leB rfl) (by kernel_rfl) (by kernel_rfl) (renE_of (by kernel_rfl) (by kernel_rfl)) ⟨rePl (by kernel_rfl) (leB rfl) (flat_all _ (fun _ => rfl) _), trivial⟩)
        · refine w_exit ?_
          exact hK_8802 _ _ (h_9266 _ (Option.some.inj h).symm).symm (to_ren [] (leB rfl) (by kernel_rfl) (by kernel_rfl) (renE_of (by kernel_rfl) (by kernel_rfl)) ⟨rePl (by kernel_rfl) (leB rfl) (flat_all _ (fun _ => rfl) _), trivial⟩)
    · refine w_reg ⟨[(6, .ptr 0 0), (11, Nl)], [(0, ⟨49, 0, (flat cs_Ratio e_8800)⟩)], 1⟩ (by kernel_rfl) (leB rfl) ?_
      refine w_assoc ?_
      refine w_seq (fun K hK_9501 => w_reg0 ?_)
      obtain ⟨_, h_9503, h⟩ := bind_some' h; replace h_9503 := lenO_some h_9503
      refine dd_one 0 (.load 49 (.tmp 6)) (some 47) (by kernel_rfl) (o_pure (.agg (flat cs_Ratio e_8800)) (ev_load_arr (dsc := .array 12 47) (k := 2) (s := 288) (sz := 0) (b := 0) (ty := 49) (c := cs_Ratio) (l := e_8800) (fun _ => rfl) (by rw [h_9503]) (by kernel_rfl) rfl (by kernel_rfl) (by kernel_rfl) (by kernel_rfl)) rfl) ?_
      refine ops_fin' hK_9501 ⟨[(11, Nl), (47, .agg (flat cs_Ratio e_8800)), (48, I 0)], [(0, ⟨49, 0, (flat cs_Ratio e_8800)⟩)], 1⟩ (by kernel_rfl) (leB rfl) ?_
      refine w_cut h (fun (e_10775 : List D.Debt) => ⟨[(11, sl 4 cs_Debt e_10775)], [], 0⟩) (fun o h h_10776 K hK_10777 => ?_) (fun e_10775 h => ?_)
      · refine w_block ?_
        refine w_loopO h (fun (s_11624 : List D.Debt × Int) => ⟨[(11, growE 0 s_11624.1), (47, .agg (flat cs_Ratio e_8800)), (48, I s_11624.2)], (growH 0 ⟨38, 4, flat cs_Debt s_11624.1⟩ s_11624.1 []), 1⟩) (to_ren [] (leB rfl) (by kernel_rfl) (by kernel_rfl) ⟨reS (by kernel_rfl) (by kernel_rfl), ⟨reN (by kernel_rfl) (flat_all (AV.keyed 0 3) (fun _ => rfl) _), ⟨reS (by kernel_rfl) (by kernel_rfl), trivial⟩⟩⟩ trivial) (fun s_11624 o h h_11625 K hK_11626 => ?_)
        · refine w_reg ⟨[(11, growE 0 s_11624.1), (47, .agg (flat cs_Ratio e_8800)), (48, I s_11624.2), (49, B (decide (s_11624.2 < 12)))], (growH 0 ⟨38, 4, flat cs_Debt s_11624.1⟩ s_11624.1 []), 1⟩ (by kernel_rfl) (leB rfl) ?_
          refine w_seq (fun K hK_11628 => ?_)
          refine w_ite h (by kernel_rfl) (fun h_11629 h => ?_) (fun h_11629 h => ?_)
          · refine w_skip ?_
            refine hK_11628 _ ⟨[(11, growE 0 s_11624.1), (47, .agg (flat cs_Ratio e_8800)), (48, I s_11624.2)], (growH 0 ⟨38, 4, flat cs_Debt s_11624.1⟩ s_11624.1 []), 1⟩ (to_trim (by kernel_rfl) (leB rfl)) ?_
            refine w_seq (fun K hK_11840 => ?_)
            refine w_block ?_
            refine w_seq (fun K hK_11851 => w_reg0 ?_)
            refine dd_run 0 1 rfl (by kernel_rfl) ?_
            obtain ⟨_, h_11854, h⟩ := bind_some' h; replace h_11854 := rngO_some h_11854
            obtain ⟨_, h_11855, h⟩ := bind_some' h; replace h_11855 := lenO_some h_11855
            refine dd_one 1 (.index 49 (.tmp 47) (.tmp 48)) (some 51) (by kernel_rfl) (o_pure (.agg (flat cs_Ratio ((e_8800.drop (s_11624.2.toNat * 12)).take 12))) (ev_ix_sub (N := 12) (m := 12) (s := 24) (dsc := .array 12 34) (e := 47) (k := 2) (c := cs_Ratio) (ik := .i64) (fun _ => rfl) h_11854 h_11855 (by kernel_rfl) (by kernel_rfl) rfl (by kernel_rfl) rfl (by kernel_rfl) (by kernel_rfl)) rfl) ?_
            refine dd_run 2 4 rfl (by kernel_rfl) ?_
            obtain ⟨_, h_11858, h⟩ := bind_some' h; replace h_11858 := lenO_some h_11858
            obtain ⟨_, h_11859, h⟩ := bind_some' h; replace h_11859 := lenO_some h_11859
            refine dd_one 4 (.store 47 (.tmp 13) (.tmp 51)) none (by kernel_rfl) (o_heap (U) ((1, ⟨47, 0, (flat cs_Ratio ((e_8800.drop (s_11624.2.toNat * 12)).take 12))⟩) :: (growH 0 ⟨38, 4, flat cs_Debt s_11624.1⟩ s_11624.1 [])) 2 (by kernel_rfl) (hv_store_arr (k := 2) (s := 24) (c := cs_Ratio) (l := (List.replicate 12 (D.Ratio.mk 0 0))) (m := ((e_8800.drop (s_11624.2.toNat * 12)).take 12)) (b := 1) (sz := 0) (ty := 47) (fun _ => rfl) (by kernel_rfl) (by kernel_rfl) (by kernel_rfl) (by kernel_rfl) (by rw [h_11858]) (by rw [h_11859]) (fun _ => rfl)) rfl) ?_
            refine ops_fin' hK_11851 ⟨[(11, growE 0 s_11624.1), (12, I s_11624.2), (13, .ptr 1 0), (47, .agg (flat cs_Ratio e_8800)), (48, I s_11624.2)], ((1, ⟨47, 0, (flat cs_Ratio ((e_8800.drop (s_11624.2.toNat * 12)).take 12))⟩) :: (growH 0 ⟨38, 4, flat cs_Debt s_11624.1⟩ s_11624.1 [])), 2⟩ (by kernel_rfl) (leB rfl) ?_
            refine w_seq (fun K hK_11863 => w_reg0 ?_)
            obtain ⟨_, h_11865, h⟩ := bind_some' h; replace h_11865 := lenO_some h_11865
            refine dd_one 0 (.load 47 (.tmp 13)) (some 52) (by kernel_rfl) (o_pure (.agg (flat cs_Ratio ((e_8800.drop (s_11624.2.toNat * 12)).take 12))) (ev_load_arr (dsc := .array 12 34) (k := 2) (s := 24) (sz := 0) (b := 1) (ty := 47) (c := cs_Ratio) (l := ((e_8800.drop (s_11624.2.toNat * 12)).take 12)) (fun _ => rfl) (by rw [h_11865]) (by kernel_rfl) rfl (by kernel_rfl) (by kernel_rfl) (by kernel_rfl)) rfl) ?_
            refine ops_fin' hK_11863 ⟨[(11, growE 0 s_11624.1), (12, I s_11624.2), (47, .agg (flat cs_Ratio e_8800)), (48, I s_11624.2), (52, .agg (flat cs_Ratio ((e_8800.drop (s_11624.2.toNat * 12)).take 12))), (53, I 0)], ((1, ⟨47, 0, (flat cs_Ratio ((e_8800.drop (s_11624.2.toNat * 12)).take 12))⟩) :: (growH 0 ⟨38, 4, flat cs_Debt s_11624.1⟩ s_11624.1 [])), 2⟩ (by kernel_rfl) (leB rfl) ?_
            refine w_block ?_
            refine w_loopO h (fun (s_11988 : List D.Debt × Int) => ⟨[(11, growE 0 s_11988.1), (12, I s_11624.2), (47, .agg (flat cs_Ratio e_8800)), (48, I s_11624.2), (52, .agg (flat cs_Ratio ((e_8800.drop (s_11624.2.toNat * 12)).take 12))), (53, I s_11988.2)], (growH 0 ⟨38, 4, flat cs_Debt s_11988.1⟩ s_11988.1 []), 1⟩) ?_ (fun s_11988 o h h_11989 K hK_11990 => ?_)
            · cases s_11624.1 with
              | nil =>
                exact to_ren [] (leB rfl) (by kernel_rfl) (by kernel_rfl) ⟨reS (by kernel_rfl) (by kernel_rfl), ⟨reS (by kernel_rfl) (by kernel_rfl), ⟨reN (by kernel_rfl) (flat_all (AV.keyed 0 3) (fun _ => rfl) _), ⟨reS (by kernel_rfl) (by kernel_rfl), ⟨reN (by kernel_rfl) (flat_all (AV.keyed 0 3) (fun _ => rfl) _), ⟨reS (by kernel_rfl) (by kernel_rfl), trivial⟩⟩⟩⟩⟩⟩ trivial
              | cons y_ ys_ =>
                exact to_ren [] (leB rfl) (by kernel_rfl) (by kernel_rfl) ⟨reS (by kernel_rfl) (by kernel_rfl), ⟨reS (by kernel_rfl) (by kernel_rfl), ⟨reN (by kernel_rfl) (flat_all (AV.keyed 0 3) (fun _ => rfl) _), ⟨reS (by kernel_rfl) (by kernel_rfl), ⟨reN (by kernel_rfl) (flat_all (AV.keyed 0 3) (fun _ => rfl) _), ⟨reS (by kernel_rfl) (by kernel_rfl), trivial⟩⟩⟩⟩⟩⟩ ⟨rePl (by kernel_rfl) (leB rfl) (flat_all _ (fun _ => rfl) _), trivial⟩
            · refine w_reg ⟨[(11, growE 0 s_11988.1), (12, I s_11624.2), (47, .agg (flat cs_Ratio e_8800)), (48, I s_11624.2), (52, .agg (flat cs_Ratio ((e_8800.drop (s_11624.2.toNat * 12)).take 12))), (53, I s_11988.2), (54, B (decide (s_11988.2 < 12)))], (growH 0 ⟨38, 4, flat cs_Debt s_11988.1⟩ s_11988.1 []), 1⟩ (by kernel_rfl) (leB rfl) ?_
              refine w_seq (fun K hK_11992 => ?_)
              refine w_ite h (by kernel_rfl) (fun h_11993 h => ?_) (fun h_11993 h => ?_)
              · refine w_skip ?_
                refine hK_11992 _ ⟨[(11, growE 0 s_11988.1), (12, I s_11624.2), (47, .agg (flat cs_Ratio e_8800)), (48, I s_11624.2), (52, .agg (flat cs_Ratio ((e_8800.drop (s_11624.2.toNat * 12)).take 12))), (53, I s_11988.2)], (growH 0 ⟨38, 4, flat cs_Debt s_11988.1⟩ s_11988.1 []), 1⟩ (to_trim (by kernel_rfl) (leB rfl)) ?_
                refine w_seq (fun K hK_12022 => ?_)
                refine w_block ?_
                refine w_seq (fun K hK_12032 => w_reg0 ?_)
                refine dd_run 0 1 rfl (by kernel_rfl) ?_
                obtain ⟨x_12036, h_12037, h⟩ := bind_some' h
                obtain ⟨_, h_12038, h⟩ := bind_some' h; replace h_12038 := lenO_some h_12038
                refine dd_one 1 (.index 47 (.tmp 52) (.tmp 53)) (some 56) (by kernel_rfl) (o_pure (.agg (cs_Ratio x_12036)) (ev_ix_arr (N := 12) (e := 34) (k := 2) (c := cs_Ratio) (ik := .i64) (fun _ => rfl) h_12037 h_12038 (by kernel_rfl) (by kernel_rfl) (by kernel_rfl) (by kernel_rfl) (by kernel_rfl)) rfl) ?_
                refine ops_fin' hK_12032 ⟨[(11, growE 0 s_11988.1), (12, I s_11624.2), (14, I s_11988.2), (15, .ptr 1 0), (47, .agg (flat cs_Ratio e_8800)), (48, I s_11624.2), (52, .agg (flat cs_Ratio ((e_8800.drop (s_11624.2.toNat * 12)).take 12))), (53, I s_11988.2)], ((1, ⟨34, 0, (cs_Ratio x_12036)⟩) :: (growH 0 ⟨38, 4, flat cs_Debt s_11988.1⟩ s_11988.1 [])), 2⟩ (by kernel_rfl) (leB rfl) ?_
                refine w_block ?_
                refine w_reg ⟨[(11, growE 0 s_11988.1), (12, I s_11624.2), (14, I s_11988.2), (15, .ptr 1 0), (47, .agg (flat cs_Ratio e_8800)), (48, I s_11624.2), (52, .agg (flat cs_Ratio ((e_8800.drop (s_11624.2.toNat * 12)).take 12))), (53, I s_11988.2), (57, B (decide (x_12036.Num > 0)))], ((1, ⟨34, 0, (cs_Ratio x_12036)⟩) :: (growH 0 ⟨38, 4, flat cs_Debt s_11988.1⟩ s_11988.1 [])), 2⟩ (by kernel_rfl) (leB rfl) ?_
                refine w_ite h (by kernel_rfl) (fun h_12039 h => ?_) (fun h_12039 h => ?_)
                · refine w_reg0 ?_
                  refine dd_run 0 6 rfl (by kernel_rfl) ?_
                  obtain ⟨x_12042, h_12043, h⟩ := bind_some' h
                  refine dd_one 6 (.call ⟨.builtin .append, #[(.tmp 61), (.tmp 66)], #[22, 22]⟩) (some 67) (by kernel_rfl) (o_heap (.own 2 x_12042.length) [(2, ⟨38, 4, flat cs_Debt x_12042⟩), (1, ⟨34, 0, (cs_Ratio x_12036)⟩)] 3 (by kernel_rfl) (hv_append (sv := growE 0 s_11988.1) (xv := sl 4 cs_Debt [(D.Debt.mk s_11624.2 s_11988.2 x_12036)]) (by kernel_rfl) (by kernel_rfl) (app_new (e := 38) (k := 4) (c := cs_Debt) h_12043 (.inl (appO_pos h_12043)) (by kernel_rfl) (by kernel_rfl) (by kernel_rfl) (by kernel_rfl : zeroT _ _ = some [I 0, I 0, I 0, I 0]) (leB rfl) rfl (old_grow (k := 4) (c := cs_Debt) (A := [(1, ⟨34, 0, (cs_Ratio x_12036)⟩)]) (T := []) (fun _ => rfl) _ (by kernel_rfl) (by kernel_rfl) (by kernel_rfl) (by kernel_rfl)) (new_sl (k := 4) (c := cs_Debt) (fun _ => rfl) _))) rfl) ?_
                  refine dd_run 7 8 rfl (by kernel_rfl) ?_
                  refine dd_nil 8 rfl ?_
                  refine hK_12022 _ ⟨[(11, .own 2 x_12042.length), (12, I s_11624.2), (47, .agg (flat cs_Ratio e_8800)), (48, I s_11624.2), (52, .agg (flat cs_Ratio ((e_8800.drop (s_11624.2.toNat * 12)).take 12))), (53, I s_11988.2)], [(2, ⟨38, 4, flat cs_Debt x_12042⟩), (1, ⟨34, 0, (cs_Ratio x_12036)⟩)], 3⟩ (to_trim (by kernel_rfl) (leB rfl)) ?_
                  refine w_reg0 ?_
                  refine dd_run 0 2 rfl (by kernel_rfl) ?_
                  refine dd_nil 2 rfl ?_
                  obtain ⟨y_, ys_, hy_⟩ := ne_cons (appO_pos h_12043); subst hy_
                  exact hK_11990 _ _ (Option.some.inj h).symm (to_ren [(0, 2)] (leB rfl) (by kernel_rfl) (by kernel_rfl) ⟨reS (by kernel_rfl) (by kernel_rfl), ⟨reS (by kernel_rfl) (by kernel_rfl), ⟨reN (by kernel_rfl) (flat_all (AV.keyed 0 3) (fun _ => rfl) _), ⟨reS (by kernel_rfl) (by kernel_rfl), ⟨reN (by kernel_rfl) (flat_all (AV.keyed 0 3) (fun _ => rfl) _), ⟨reS (by kernel_rfl) (by kernel_rfl), trivial⟩⟩⟩⟩⟩⟩ ⟨rePl (by kernel_rfl) (leB rfl) (flat_all _ (fun _ => rfl) _), trivial⟩)
                · refine w_reg ⟨[(11, growE 0 s_11988.1), (12, I s_11624.2), (14, I s_11988.2), (15, .ptr 1 0), (47, .agg (flat cs_Ratio e_8800)), (48, I s_11624.2), (52, .agg (flat cs_Ratio ((e_8800.drop (s_11624.2.toNat * 12)).take 12))), (53, I s_11988.2), (68, B (decide (x_12036.Num < 0)))], ((1, ⟨34, 0, (cs_Ratio x_12036)⟩) :: (growH 0 ⟨38, 4, flat cs_Debt s_11988.1⟩ s_11988.1 [])), 2⟩ (by kernel_rfl) (leB rfl) ?_
                  refine w_ite h (by kernel_rfl) (fun h_12044 h => ?_) (fun h_12044 h => ?_)
                  · refine w_reg0 ?_
                    refine dd_run 0 4 rfl (by kernel_rfl) ?_
                    obtain ⟨x_12045, h_12046, h⟩ := bind_some' h
                    refine dd_one 4 (.call ⟨.value (.func 30), #[(.tmp 75)], #[34]⟩) (some 76) (by kernel_rfl) (o_callP (g_netting_minus_ok h_12046) (by kernel_rfl) rfl) ?_
                    refine dd_run 5 7 rfl (by kernel_rfl) ?_
                    obtain ⟨x_12049, h_12050, h⟩ := bind_some' h
                    refine dd_one 7 (.call ⟨.builtin .append, #[(.tmp 72), (.tmp 78)], #[22, 22]⟩) (some 79) (by kernel_rfl) (o_heap (.own 2 x_12049.length) [(2, ⟨38, 4, flat cs_Debt x_12049⟩), (1, ⟨34, 0, (cs_Ratio x_12036)⟩)] 3 (by kernel_rfl) (hv_append (sv := growE 0 s_11988.1) (xv := sl 4 cs_Debt [(D.Debt.mk s_11988.2 s_11624.2 x_12045)]) (by kernel_rfl) (by kernel_rfl) (app_new (e := 38) (k := 4) (c := cs_Debt) h_12050 (.inl (appO_pos h_12050)) (by kernel_rfl) (by kernel_rfl) (by kernel_rfl) (by kernel_rfl : zeroT _ _ = some [I 0, I 0, I 0, I 0]) (leB rfl) rfl (old_grow (k := 4) (c := cs_Debt) (A := [(1, ⟨34, 0, (cs_Ratio x_12036)⟩)]) (T := []) (fun _ => rfl) _ (by kernel_rfl) (by kernel_rfl) (by kernel_rfl) (by kernel_rfl)) (new_sl (k := 4) (c := cs_Debt) (fun _ => rfl) _))) rfl) ?_
                    refine dd_run 8 9 rfl (by kernel_rfl) ?_
                    refine dd_nil 9 rfl ?_
                    refine hK_12022 _ ⟨[(11, .own 2 x_12049.length), (12, I s_11624.2), (47, .agg (flat cs_Ratio e_8800)), (48, I s_11624.2), (52, .agg (flat cs_Ratio ((e_8800.drop (s_11624.2.toNat * 12)).take 12))), (53, I s_11988.2)], [(2, ⟨38, 4, flat cs_Debt x_12049⟩), (1, ⟨34, 0, (cs_Ratio x_12036)⟩)], 3⟩ (to_trim (by kernel_rfl) (leB rfl)) ?_
                    refine w_reg0 ?_
                    refine dd_run 0 2 rfl (by kernel_rfl) ?_
                    refine dd_nil 2 rfl ?_
                    obtain ⟨y_, ys_, hy_⟩ := ne_cons (appO_pos h_12050); subst hy_
                    exact hK_11990 _ _ (Option.some.inj h).symm (to_ren [(0, 2)] (leB rfl) (by kernel_rfl) (by kernel_rfl) ⟨reS (by kernel_rfl) (by kernel_rfl), ⟨reS (by kernel_rfl) (by kernel_rfl), ⟨reN (by kernel_rfl) (flat_all (AV.keyed 0 3) (fun _ => rfl) _), ⟨reS (by kernel_rfl) (by kernel_rfl), ⟨reN (by kernel_rfl) (flat_all (AV.keyed 0 3) (fun _ => rfl) _), ⟨reS (by kernel_rfl) (by kernel_rfl), trivial⟩⟩⟩⟩⟩⟩ ⟨rePl (by kernel_rfl) (leB rfl) (flat_all _ (fun _ => rfl) _), trivial⟩)
                  · refine w_skip ?_
                    refine hK_12022 _ ⟨[(11, growE 0 s_11988.1), (12, I s_11624.2), (47, .agg (flat cs_Ratio e_8800)), (48, I s_11624.2), (52, .agg (flat cs_Ratio ((e_8800.drop (s_11624.2.toNat * 12)).take 12))), (53, I s_11988.2)], ((1, ⟨34, 0, (cs_Ratio x_12036)⟩) :: (growH 0 ⟨38, 4, flat cs_Debt s_11988.1⟩ s_11988.1 [])), 2⟩ (to_trim (by kernel_rfl) (leB rfl)) ?_
                    refine w_reg0 ?_
                    refine dd_run 0 2 rfl (by kernel_rfl) ?_
                    refine dd_nil 2 rfl ?_
                    refine hK_11990 _ _ (Option.some.inj h).symm ?_
                    cases s_11988.1 with
                    | nil =>
                      exact to_ren [] (leB rfl) (by kernel_rfl) (by kernel_rfl) ⟨reS (by kernel_rfl) (by kernel_rfl), ⟨reS (by kernel_rfl) (by kernel_rfl), ⟨reN (by kernel_rfl) (flat_all (AV.keyed 0 3) (fun _ => rfl) _), ⟨reS (by kernel_rfl) (by kernel_rfl), ⟨reN (by kernel_rfl) (flat_all (AV.keyed 0 3) (fun _ => rfl) _), ⟨reS (by kernel_rfl) (by kernel_rfl), trivial⟩⟩⟩⟩⟩⟩ trivial
                    | cons y_ ys_ =>
                      exact to_ren [] (leB rfl) (by kernel_rfl) (by kernel_rfl) ⟨reS (by kernel_rfl) (by kernel_rfl), ⟨reS (by kernel_rfl) (by kernel_rfl), ⟨reN (by kernel_rfl) (flat_all (AV.keyed 0 3) (fun _ => rfl) _), ⟨reS (by kernel_rfl) (by kernel_rfl), ⟨reN (by kernel_rfl) (flat_all (AV.keyed 0 3) (fun _ => rfl) _), ⟨reS (by kernel_rfl) (by kernel_rfl), trivial⟩⟩⟩⟩⟩⟩ ⟨rePl (by kernel_rfl) (leB rfl) (flat_all _ (fun _ => rfl) _), trivial⟩
              · refine w_exit ?_
                refine hK_11840 _ ⟨[(11, growE 0 s_11988.1), (47, .agg (flat cs_Ratio e_8800)), (48, I s_11624.2)], (growH 0 ⟨38, 4, flat cs_Debt s_11988.1⟩ s_11988.1 []), 1⟩ (to_trim (by kernel_rfl) (leB rfl)) ?_
                refine w_reg0 ?_
                refine dd_run 0 2 rfl (by kernel_rfl) ?_
                refine dd_nil 2 rfl ?_
                refine hK_11626 _ _ (h_11989 _ (Option.some.inj h).symm).symm ?_
                cases s_11988.1 with
                | nil =>
                  exact to_ren [] (leB rfl) (by kernel_rfl) (by kernel_rfl) ⟨reS (by kernel_rfl) (by kernel_rfl), ⟨reN (by kernel_rfl) (flat_all (AV.keyed 0 3) (fun _ => rfl) _), ⟨reS (by kernel_rfl) (by kernel_rfl), trivial⟩⟩⟩ trivial
                | cons y_ ys_ =>
                  exact to_ren [] (leB rfl) (by kernel_rfl) (by kernel_rfl) ⟨reS (by kernel_rfl) (by kernel_rfl), ⟨reN (by kernel_rfl) (flat_all (AV.keyed 0 3) (fun _ => rfl) _), ⟨reS (by kernel_rfl) (by kernel_rfl), trivial⟩⟩⟩ ⟨rePl (by kernel_rfl) (leB rfl) (flat_all _ (fun _ => rfl) _), trivial⟩
          · refine w_exit ?_
            exact hK_10777 _ _ (h_11625 _ (Option.some.inj h).symm).symm (to_trans (to_freezeG 11 0 s_11624.1 38 [] [] (k := 4) (c := cs_Debt) (leB rfl) (by kernel_rfl) (by kernel_rfl) (by kernel_rfl) (free_nil _) (by kernel_rfl) (leB rfl) (fun _ => rfl) (fun _ => rfl) (fun _ => rfl)) (to_ren [] (leB rfl) (by kernel_rfl) (by kernel_rfl) (renE_of (by kernel_rfl) (by kernel_rfl)) trivial))
      · refine w_reg ⟨[(4, sl 4 cs_Debt e_10775), (5, I 0)], [], 0⟩ (by kernel_rfl) (leB rfl) ?_
        refine w_ret ?_
        obtain rfl := ((Option.some.inj h).symm).symm
        exact ret_leaf (.inl rfl) ⟨[(4, sl 4 cs_Debt e_10775), (5, I 0)], [], 0⟩ (to_ren [] (leB rfl) (by kernel_rfl) (by kernel_rfl) (renE_of (by kernel_rfl) (by kernel_rfl)) trivial) [sl 4 cs_Debt e_10775, I 0] (by kernel_rfl) (by kernel_rfl) (leB rfl) (by kernel_rfl) trivial
end Go.Proofs.Ytgggekjhfdkgkaa.Ab
