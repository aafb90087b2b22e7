/- Functions of the program as plain functions (printed by wip/dec.py). -/
import Derived.Test.YtgggekjhfdkgkaaDx8
import Derived.Test.YtgggekjhfdkgkaaDx9
namespace Go.Proofs.Ytgggekjhfdkgkaa.Ab
open Go Go.RowKit Go.Shelf
/-- estoppel/estoppelref42.Positions -/
def g_estoppelref42_Positions_own (a1 : Int) (a2 : List D.Debt) : Option ((Int) ⊕ (List D.Ratio × Int)) :=
  (g_estoppelref42_Valid a1 a2).bind fun x_26311 =>
  if (!x_26311) = true then
  some (.inl 1)
  else
  bindF (ρ := List D.Ratio) (
  loopO (σ := List D.Ratio × Int) (fun s_26464 =>
  if (decide (s_26464.2 < a1)) = true then
  (g_estoppelref42_position a2 s_26464.2).bind fun x_26486 =>
  if (x_26486.2 != 0) = true then
  some (.inr (.inr (.inl x_26486.2)))
  else
  (appO 16 s_26464.1 [x_26486.1]).bind fun x_26493 =>
  some (.inl (x_26493, (IntKind.i64.wrap (s_26464.2 + 1))))
  else
  some (.inr (.inl s_26464.1))) ([], 0)) (fun (e_26403 : List D.Ratio) =>
  if (e_26403).isEmpty = true then
  some (.inl 0)
  else
  some (.inr (e_26403, 0)))
set_option maxHeartbeats 4000000 in
theorem g_estoppelref42_Positions_own_ok1 {a1 : Int} {a2 : List D.Debt} {res : Int} (h : g_estoppelref42_Positions_own a1 a2 = some (.inl res)) : SpecK Try.prog [] 11 [I a1, sl 4 cs_Debt a2] [] 0 (.tup [Nl, I res]) [] 0 := by
  refine ⟨spec_of_wp Try.func11 (by kernel_rfl) rfl Try.ntmps11 (by rw [Try.results11]) (leB rfl) ?_, by kernel_rfl, trivial, by kernel_rfl, trivial, by kernel_rfl⟩
  unfold g_estoppelref42_Positions_own at h
  refine w_reg ⟨[(0, I a1), (1, sl 4 cs_Debt a2)], [], 0⟩ (by kernel_rfl) (leB rfl) ?_
  refine w_assoc ?_
  refine w_seq (fun K hK_26310 => w_reg0 ?_)
  refine dd_run 0 2 rfl (by kernel_rfl) ?_
  obtain ⟨x_26311, h_26312, h⟩ := bind_some' h
  refine dd_one 2 (.call ⟨.value (.func 17), #[(.tmp 10), (.tmp 11)], #[3, 22]⟩) (some 12) (by kernel_rfl) (o_callP (g_estoppelref42_Valid_ok h_26312) (by kernel_rfl) rfl) ?_
  refine ops_fin' hK_26310 ⟨[(0, I a1), (1, sl 4 cs_Debt a2), (13, B (!x_26311))], [], 0⟩ (by kernel_rfl) (leB rfl) ?_
  refine w_seq (fun K hK_26314 => ?_)
  refine w_ite h (by kernel_rfl) (fun h_26315 h => ?_) (fun h_26315 h => ?_)
  · refine w_reg ⟨[(4, Nl), (5, I 1)], [], 0⟩ (by kernel_rfl) (leB rfl) ?_
    refine w_ret ?_
    obtain rfl := ((Sum.inl.inj (Option.some.inj h).symm)).symm
    exact ret_leaf (.inl rfl) ⟨[(4, Nl), (5, I 1)], [], 0⟩ (to_ren [] (leB rfl) (by kernel_rfl) (by kernel_rfl) (renE_of (by kernel_rfl) (by kernel_rfl)) trivial) [Nl, I 1] (by kernel_rfl) (by kernel_rfl) (leB rfl) (by kernel_rfl) trivial
  · refine w_skip ?_
    refine hK_26314 _ ⟨[(0, I a1), (1, sl 4 cs_Debt a2)], [], 0⟩ (to_trim (by kernel_rfl) (leB rfl)) ?_
    refine w_reg ⟨[(0, I a1), (1, sl 4 cs_Debt a2), (6, Nl)], [], 0⟩ (by kernel_rfl) (leB rfl) ?_
    refine w_assoc ?_
    refine w_reg ⟨[(0, I a1), (1, sl 4 cs_Debt a2), (6, Nl), (7, I 0)], [], 0⟩ (by kernel_rfl) (leB rfl) ?_
    refine w_cut h (fun (e_26403 : List D.Ratio) => ⟨[(6, growE 0 e_26403)], (growH 0 ⟨34, 2, flat cs_Ratio e_26403⟩ e_26403 []), 1⟩) (fun o h h_26404 K hK_26405 => ?_) (fun e_26403 h => ?_)
    · refine w_block ?_
      refine w_loopO h (fun (s_26464 : List D.Ratio × Int) => ⟨[(0, I a1), (1, sl 4 cs_Debt a2), (6, growE 0 s_26464.1), (7, I s_26464.2)], (growH 0 ⟨34, 2, flat cs_Ratio s_26464.1⟩ s_26464.1 []), 1⟩) (to_ren [] (leB rfl) (by kernel_rfl) (by kernel_rfl) (renE_of (by kernel_rfl) (by kernel_rfl)) trivial) (fun s_26464 o h h_26465 K hK_26466 => ?_)
      · refine w_assoc ?_
        refine w_reg ⟨[(0, I a1), (1, sl 4 cs_Debt a2), (6, growE 0 s_26464.1), (7, I s_26464.2), (16, B (decide (s_26464.2 < a1)))], (growH 0 ⟨34, 2, flat cs_Ratio s_26464.1⟩ s_26464.1 []), 1⟩ (by kernel_rfl) (leB rfl) ?_
        refine w_seq (fun K hK_26468 => ?_)
        refine w_ite h (by kernel_rfl) (fun h_26469 h => ?_) (fun h_26469 h => ?_)
        · refine w_skip ?_
          refine hK_26468 _ ⟨[(0, I a1), (1, sl 4 cs_Debt a2), (6, growE 0 s_26464.1), (7, I s_26464.2)], (growH 0 ⟨34, 2, flat cs_Ratio s_26464.1⟩ s_26464.1 []), 1⟩ (to_trim (by kernel_rfl) (leB rfl)) ?_
          refine w_seq (fun K hK_26482 => ?_)
          refine w_block ?_
          refine w_seq (fun K hK_26485 => w_reg0 ?_)
          refine dd_run 0 2 rfl (by kernel_rfl) ?_
          obtain ⟨x_26486, h_26487, h⟩ := bind_some' h
          refine dd_one 2 (.call ⟨.value (.func 28), #[(.tmp 20), (.tmp 21)], #[22, 3]⟩) (some 22) (by kernel_rfl) (o_callP (g_estoppelref42_position_ok h_26487) (by kernel_rfl) rfl) ?_
          refine ops_fin' hK_26485 ⟨[(0, I a1), (1, sl 4 cs_Debt a2), (6, growE 0 s_26464.1), (7, I s_26464.2), (8, .ptr 1 0), (9, I x_26486.2)], ((1, ⟨34, 0, (cs_Ratio x_26486.1)⟩) :: (growH 0 ⟨34, 2, flat cs_Ratio s_26464.1⟩ s_26464.1 [])), 2⟩ (by kernel_rfl) (leB rfl) ?_
          refine w_assoc ?_
          refine w_reg ⟨[(0, I a1), (1, sl 4 cs_Debt a2), (6, growE 0 s_26464.1), (7, I s_26464.2), (8, .ptr 1 0), (9, I x_26486.2), (26, B (x_26486.2 != 0))], ((1, ⟨34, 0, (cs_Ratio x_26486.1)⟩) :: (growH 0 ⟨34, 2, flat cs_Ratio s_26464.1⟩ s_26464.1 [])), 2⟩ (by kernel_rfl) (leB rfl) ?_
          refine w_seq (fun K hK_26489 => ?_)
          refine w_ite h (by kernel_rfl) (fun h_26490 h => ?_) (fun h_26490 h => ?_)
          · refine w_reg ⟨[(4, Nl), (5, I x_26486.2)], ((1, ⟨34, 0, (cs_Ratio x_26486.1)⟩) :: (growH 0 ⟨34, 2, flat cs_Ratio s_26464.1⟩ s_26464.1 [])), 2⟩ (by kernel_rfl) (leB rfl) ?_
            refine w_ret ?_
            obtain rfl := ((Sum.inl.inj (h_26404 _ (h_26465 _ (Option.some.inj h).symm).symm).symm)).symm
            exact ret_leaf (.inl rfl) ⟨[(4, Nl), (5, I x_26486.2)], [], 0⟩ (to_ren [] (leB rfl) (by kernel_rfl) (by kernel_rfl) (renE_of (by kernel_rfl) (by kernel_rfl)) trivial) [Nl, I x_26486.2] (by kernel_rfl) (by kernel_rfl) (leB rfl) (by kernel_rfl) trivial
          · refine w_skip ?_
            refine hK_26489 _ ⟨[(0, I a1), (1, sl 4 cs_Debt a2), (6, growE 0 s_26464.1), (7, I s_26464.2), (8, .ptr 1 0)], ((1, ⟨34, 0, (cs_Ratio x_26486.1)⟩) :: (growH 0 ⟨34, 2, flat cs_Ratio s_26464.1⟩ s_26464.1 [])), 2⟩ (to_trim (by kernel_rfl) (leB rfl)) ?_
            refine w_reg0 ?_
            refine dd_run 0 3 rfl (by kernel_rfl) ?_
            obtain ⟨x_26493, h_26494, h⟩ := bind_some' h
            refine dd_one 3 (.call ⟨.builtin .append, #[(.tmp 28), (.tmp 30)], #[24, 24]⟩) (some 31) (by kernel_rfl) (o_heap (.own 2 x_26493.length) [(2, ⟨34, 2, flat cs_Ratio x_26493⟩), (1, ⟨34, 0, (cs_Ratio x_26486.1)⟩)] 3 (by kernel_rfl) (hv_append (sv := growE 0 s_26464.1) (xv := sl 2 cs_Ratio [x_26486.1]) (by kernel_rfl) (by kernel_rfl) (app_new (e := 34) (k := 2) (c := cs_Ratio) h_26494 (.inl (appO_pos h_26494)) (by kernel_rfl) (by kernel_rfl) (by kernel_rfl) (by kernel_rfl : zeroT _ _ = some [I 0, I 0]) (leB rfl) rfl (old_grow (k := 2) (c := cs_Ratio) (A := [(1, ⟨34, 0, (cs_Ratio x_26486.1)⟩)]) (T := []) (fun _ => rfl) _ (by kernel_rfl) (by kernel_rfl) (by kernel_rfl) (by kernel_rfl)) (new_sl (k := 2) (c := cs_Ratio) (fun _ => rfl) _))) rfl) ?_
            refine dd_run 4 5 rfl (by kernel_rfl) ?_
            refine dd_nil 5 rfl ?_
            refine hK_26482 _ ⟨[(0, I a1), (1, sl 4 cs_Debt a2), (6, .own 2 x_26493.length), (7, I s_26464.2)], [(2, ⟨34, 2, flat cs_Ratio x_26493⟩), (1, ⟨34, 0, (cs_Ratio x_26486.1)⟩)], 3⟩ (to_trim (by kernel_rfl) (leB rfl)) ?_
            refine w_reg0 ?_
            refine dd_run 0 3 rfl (by kernel_rfl) ?_
            refine dd_nil 3 rfl ?_
            obtain ⟨y_, ys_, hy_⟩ := ne_cons (appO_pos h_26494); subst hy_
            exact hK_26466 _ _ (Option.some.inj h).symm (to_ren [(0, 2)] (leB rfl) (by kernel_rfl) (by kernel_rfl) (renE_of (by kernel_rfl) (by kernel_rfl)) ⟨rePl (by kernel_rfl) (leB rfl) (flat_all _ (fun _ => rfl) _), trivial⟩)
        · refine w_exit ?_
          refine hK_26405 _ _ (h_26465 _ (Option.some.inj h).symm).symm ?_
          cases s_26464.1 with
          | nil =>
            exact to_ren [] (leB rfl) (by kernel_rfl) (by kernel_rfl) (renE_of (by kernel_rfl) (by kernel_rfl)) trivial
          | cons y_ ys_ =>
            exact to_ren [] (leB rfl) (by kernel_rfl) (by kernel_rfl) (renE_of (by kernel_rfl) (by kernel_rfl)) ⟨rePl (by kernel_rfl) (leB rfl) (flat_all _ (fun _ => rfl) _), trivial⟩
    · refine w_reg ⟨[(4, growE 0 e_26403), (5, I 0)], (growH 0 ⟨34, 2, flat cs_Ratio e_26403⟩ e_26403 []), 1⟩ (by kernel_rfl) (leB rfl) ?_
      refine w_ret ?_
      generalize hq_ : e_26403 = q_ at *
      cases q_ with
      | nil =>
        simp only [List.isEmpty_nil, if_true] at h
        obtain rfl := ((Sum.inl.inj (Option.some.inj h).symm)).symm
        exact ret_leaf (.inl rfl) ⟨[(4, Nl), (5, I 0)], [], 0⟩ (to_ren [] (leB rfl) (by kernel_rfl) (by kernel_rfl) (renE_of (by kernel_rfl) (by kernel_rfl)) trivial) [Nl, I 0] (by kernel_rfl) (by kernel_rfl) (leB rfl) (by kernel_rfl) trivial
      | cons y_ ys_ =>
        simp only [List.isEmpty_cons, Bool.false_eq_true, if_false] at h
        have hq_ := (Option.some.inj h).symm
        cases hq_
set_option maxHeartbeats 4000000 in
theorem g_estoppelref42_Positions_own_ok2 {a1 : Int} {a2 : List D.Debt} {res : List D.Ratio × Int} (h : g_estoppelref42_Positions_own a1 a2 = some (.inr res)) : SpecK Try.prog [0] 11 [I a1, sl 4 cs_Debt a2] [] 0 (.tup [.own 0 res.1.length, I res.2]) [(0, ⟨34, 2, flat cs_Ratio res.1⟩)] 1 := by
  refine ⟨spec_of_wp Try.func11 (by kernel_rfl) rfl Try.ntmps11 (by rw [Try.results11]) (leB rfl) ?_, by kernel_rfl, trivial, by kernel_rfl, ⟨⟨leB rfl, flat_all (AV.keyed 0 4) (fun _ => rfl) _⟩, trivial⟩, by kernel_rfl⟩
  unfold g_estoppelref42_Positions_own at h
  refine w_reg ⟨[(0, I a1), (1, sl 4 cs_Debt a2)], [], 0⟩ (by kernel_rfl) (leB rfl) ?_
  refine w_assoc ?_
  refine w_seq (fun K hK_26497 => w_reg0 ?_)
  refine dd_run 0 2 rfl (by kernel_rfl) ?_
  obtain ⟨x_26498, h_26499, h⟩ := bind_some' h
  refine dd_one 2 (.call ⟨.value (.func 17), #[(.tmp 10), (.tmp 11)], #[3, 22]⟩) (some 12) (by kernel_rfl) (o_callP (g_estoppelref42_Valid_ok h_26499) (by kernel_rfl) rfl) ?_
  refine ops_fin' hK_26497 ⟨[(0, I a1), (1, sl 4 cs_Debt a2), (13, B (!x_26498))], [], 0⟩ (by kernel_rfl) (leB rfl) ?_
  refine w_seq (fun K hK_26501 => ?_)
  refine w_ite h (by kernel_rfl) (fun h_26502 h => ?_) (fun h_26502 h => ?_)
  · refine w_reg ⟨[(4, Nl), (5, I 1)], [], 0⟩ (by kernel_rfl) (leB rfl) ?_
    refine w_ret ?_
    have hq_ := (Option.some.inj h).symm
    cases hq_
  · refine w_skip ?_
    refine hK_26501 _ ⟨[(0, I a1), (1, sl 4 cs_Debt a2)], [], 0⟩ (to_trim (by kernel_rfl) (leB rfl)) ?_
    refine w_reg ⟨[(0, I a1), (1, sl 4 cs_Debt a2), (6, Nl)], [], 0⟩ (by kernel_rfl) (leB rfl) ?_
    refine w_assoc ?_
    refine w_reg ⟨[(0, I a1), (1, sl 4 cs_Debt a2), (6, Nl), (7, I 0)], [], 0⟩ (by kernel_rfl) (leB rfl) ?_
    refine w_cut h (fun (e_26590 : List D.Ratio) => ⟨[(6, growE 0 e_26590)], (growH 0 ⟨34, 2, flat cs_Ratio e_26590⟩ e_26590 []), 1⟩) (fun o h h_26591 K hK_26592 => ?_) (fun e_26590 h => ?_)
    · refine w_block ?_
      refine w_loopO h (fun (s_26651 : List D.Ratio × Int) => ⟨[(0, I a1), (1, sl 4 cs_Debt a2), (6, growE 0 s_26651.1), (7, I s_26651.2)], (growH 0 ⟨34, 2, flat cs_Ratio s_26651.1⟩ s_26651.1 []), 1⟩) (to_ren [] (leB rfl) (by kernel_rfl) (by kernel_rfl) (renE_of (by kernel_rfl) (by kernel_rfl)) trivial) (fun s_26651 o h h_26652 K hK_26653 => ?_)
      · refine w_assoc ?_
        refine w_reg ⟨[(0, I a1), (1, sl 4 cs_Debt a2), (6, growE 0 s_26651.1), (7, I s_26651.2), (16, B (decide (s_26651.2 < a1)))], (growH 0 ⟨34, 2, flat cs_Ratio s_26651.1⟩ s_26651.1 []), 1⟩ (by kernel_rfl) (leB rfl) ?_
        refine w_seq (fun K hK_26655 => ?_)
        refine w_ite h (by kernel_rfl) (fun h_26656 h => ?_) (fun h_26656 h => ?_)
        · refine w_skip ?_
          refine hK_26655 _ ⟨[(0, I a1), (1, sl 4 cs_Debt a2), (6, growE 0 s_26651.1), (7, I s_26651.2)], (growH 0 ⟨34, 2, flat cs_Ratio s_26651.1⟩ s_26651.1 []), 1⟩ (to_trim (by kernel_rfl) (leB rfl)) ?_
          refine w_seq (fun K hK_26669 => ?_)
          refine w_block ?_
          refine w_seq (fun K hK_26672 => w_reg0 ?_)
          refine dd_run 0 2 rfl (by kernel_rfl) ?_
          obtain ⟨x_26673, h_26674, h⟩ := bind_some' h
          refine dd_one 2 (.call ⟨.value (.func 28), #[(.tmp 20), (.tmp 21)], #[22, 3]⟩) (some 22) (by kernel_rfl) (o_callP (g_estoppelref42_position_ok h_26674) (by kernel_rfl) rfl) ?_
          refine ops_fin' hK_26672 ⟨[(0, I a1), (1, sl 4 cs_Debt a2), (6, growE 0 s_26651.1), (7, I s_26651.2), (8, .ptr 1 0), (9, I x_26673.2)], ((1, ⟨34, 0, (cs_Ratio x_26673.1)⟩) :: (growH 0 ⟨34, 2, flat cs_Ratio s_26651.1⟩ s_26651.1 [])), 2⟩ (by kernel_rfl) (leB rfl) ?_
          refine w_assoc ?_
          refine w_reg ⟨[(0, I a1), (1, sl 4 cs_Debt a2), (6, growE 0 s_26651.1), (7, I s_26651.2), (8, .ptr 1 0), (9, I x_26673.2), (26, B (x_26673.2 != 0))], ((1, ⟨34, 0, (cs_Ratio x_26673.1)⟩) :: (growH 0 ⟨34, 2, flat cs_Ratio s_26651.1⟩ s_26651.1 [])), 2⟩ (by kernel_rfl) (leB rfl) ?_
          refine w_seq (fun K hK_26676 => ?_)
          refine w_ite h (by kernel_rfl) (fun h_26677 h => ?_) (fun h_26677 h => ?_)
          · refine w_reg ⟨[(4, Nl), (5, I x_26673.2)], ((1, ⟨34, 0, (cs_Ratio x_26673.1)⟩) :: (growH 0 ⟨34, 2, flat cs_Ratio s_26651.1⟩ s_26651.1 [])), 2⟩ (by kernel_rfl) (leB rfl) ?_
            refine w_ret ?_
            have hq_ := (h_26591 _ (h_26652 _ (Option.some.inj h).symm).symm).symm
            cases hq_
          · refine w_skip ?_
            refine hK_26676 _ ⟨[(0, I a1), (1, sl 4 cs_Debt a2), (6, growE 0 s_26651.1), (7, I s_26651.2), (8, .ptr 1 0)], ((1, ⟨34, 0, (cs_Ratio x_26673.1)⟩) :: (growH 0 ⟨34, 2, flat cs_Ratio s_26651.1⟩ s_26651.1 [])), 2⟩ (to_trim (by kernel_rfl) (leB rfl)) ?_
            refine w_reg0 ?_
            refine dd_run 0 3 rfl (by kernel_rfl) ?_
            obtain ⟨x_26680, h_26681, h⟩ := bind_some' h
            refine dd_one 3 (.call ⟨.builtin .append, #[(.tmp 28), (.tmp 30)], #[24, 24]⟩) (some 31) (by kernel_rfl) (o_heap (.own 2 x_26680.length) [(2, ⟨34, 2, flat cs_Ratio x_26680⟩), (1, ⟨34, 0, (cs_Ratio x_26673.1)⟩)] 3 (by kernel_rfl) (hv_append (sv := growE 0 s_26651.1) (xv := sl 2 cs_Ratio [x_26673.1]) (by kernel_rfl) (by kernel_rfl) (app_new (e := 34) (k := 2) (c := cs_Ratio) h_26681 (.inl (appO_pos h_26681)) (by kernel_rfl) (by kernel_rfl) (by kernel_rfl) (by kernel_rfl : zeroT _ _ = some [I 0, I 0]) (leB rfl) rfl (old_grow (k := 2) (c := cs_Ratio) (A := [(1, ⟨34, 0, (cs_Ratio x_26673.1)⟩)]) (T := []) (fun _ => rfl) _ (by kernel_rfl) (by kernel_rfl) (by kernel_rfl) (by kernel_rfl)) (new_sl (k := 2) (c := cs_Ratio) (fun _ => rfl) _))) rfl) ?_
            refine dd_run 4 5 rfl (by kernel_rfl) ?_
            refine dd_nil 5 rfl ?_
            refine hK_26669 _ ⟨[(0, I a1), (1, sl 4 cs_Debt a2), (6, .own 2 x_26680.length), (7, I s_26651.2)], [(2, ⟨34, 2, flat cs_Ratio x_26680⟩), (1, ⟨34, 0, (cs_Ratio x_26673.1)⟩)], 3⟩ (to_trim (by kernel_rfl) (leB rfl)) ?_
            refine w_reg0 ?_
            refine dd_run 0 3 rfl (by kernel_rfl) ?_
            refine dd_nil 3 rfl ?_
            obtain ⟨y_, ys_, hy_⟩ := ne_cons (appO_pos h_26681); subst hy_
            exact hK_26653 _ _ (Option.some.inj h).symm (to_ren [(0, 2)] (leB rfl) (by kernel_rfl) (by kernel_rfl) (renE_of (by kernel_rfl) (by kernel_rfl)) ⟨rePl (by kernel_rfl) (leB rfl) (flat_all _ (fun _ => rfl) _), trivial⟩)
        · refine w_exit ?_
          refine hK_26592 _ _ (h_26652 _ (Option.some.inj h).symm).symm ?_
          cases s_26651.1 with
          | nil =>
            exact to_ren [] (leB rfl) (by kernel_rfl) (by kernel_rfl) (renE_of (by kernel_rfl) (by kernel_rfl)) trivial
          | cons y_ ys_ =>
            exact to_ren [] (leB rfl) (by kernel_rfl) (by kernel_rfl) (renE_of (by kernel_rfl) (by kernel_rfl)) ⟨rePl (by kernel_rfl) (leB rfl) (flat_all _ (fun _ => rfl) _), trivial⟩
    · refine w_reg ⟨[(4, growE 0 e_26590), (5, I 0)], (growH 0 ⟨34, 2, flat cs_Ratio e_26590⟩ e_26590 []), 1⟩ (by kernel_rfl) (leB rfl) ?_
      refine w_ret ?_
      generalize hq_ : e_26590 = q_ at *
      cases q_ with
      | nil =>
        simp only [List.isEmpty_nil, if_true] at h
        have hq_ := (Option.some.inj h).symm
        cases hq_
      | cons y_ ys_ =>
        simp only [List.isEmpty_cons, Bool.false_eq_true, if_false] at h
        obtain rfl := ((Sum.inr.inj (Option.some.inj h).symm)).symm
        exact ret_leaf (.inl rfl) ⟨[(4, .own 0 (y_ :: ys_).length), (5, I 0)], [(0, ⟨34, 2, flat cs_Ratio (y_ :: ys_)⟩)], 1⟩ (to_ren [] (leB rfl) (by kernel_rfl) (by kernel_rfl) (renE_of (by kernel_rfl) (by kernel_rfl)) ⟨rePl (by kernel_rfl) (leB rfl) (flat_all _ (fun _ => rfl) _), trivial⟩) [.own 0 (y_ :: ys_).length, I 0] (by kernel_rfl) (by kernel_rfl) (leB rfl) (by kernel_rfl) ⟨⟨by kernel_rfl, leB rfl, (flat_all _ (fun _ => rfl) _)⟩, trivial⟩
/-- estoppel/estoppelref01.Cmp -/
def g_estoppelref01_Cmp (a1 : D.Ratio) (a2 : D.Ratio) : Option (Int) :=
  bindF (ρ := Bool) (
  (g_estoppelref01_Valid a1).bind fun x_26742 =>
  if (!x_26742) = true then
  some (.inl true)
  else
  (g_estoppelref01_Valid a2).bind fun x_26745 =>
  some (.inl (!x_26745))) (fun (e_26739 : Bool) =>
  if e_26739 = true then
  some 0
  else
  if (decide ((IntKind.i64.wrap (a1.Num * a2.Den)) < (IntKind.i64.wrap (a2.Num * a1.Den)))) = true then
  some (-1)
  else
  if (decide ((IntKind.i64.wrap (a1.Num * a2.Den)) > (IntKind.i64.wrap (a2.Num * a1.Den)))) = true then
  some 1
  else
  some 0)
set_option maxHeartbeats 4000000 in
theorem g_estoppelref01_Cmp_ok {a1 : D.Ratio} {a2 : D.Ratio} {res : Int} (h : g_estoppelref01_Cmp a1 a2 = some res) : SpecK Try.prog [] 38 [.agg (cs_Ratio a1), .agg (cs_Ratio a2)] [] 0 (I res) [] 0 := by
  refine ⟨spec_of_wp Try.func38 (by kernel_rfl) rfl Try.ntmps38 (by rw [Try.results38]) (leB rfl) ?_, by kernel_rfl, trivial, by kernel_rfl, trivial, by kernel_rfl⟩
  unfold g_estoppelref01_Cmp at h
  refine w_reg ⟨[(2, .ip (cs_Ratio a1)), (3, .ip (cs_Ratio a2))], [], 0⟩ (by kernel_rfl) (leB rfl) ?_
  refine w_assoc ?_
  refine w_cut h (fun (e_26739 : Bool) => ⟨[(2, .ip (cs_Ratio a1)), (3, .ip (cs_Ratio a2)), (14, B e_26739)], [], 0⟩) (fun o h h_26740 K hK_26741 => ?_) (fun e_26739 h => ?_)
  · refine w_reg0 ?_
    refine dd_run 0 1 rfl (by kernel_rfl) ?_
    obtain ⟨x_26742, h_26743, h⟩ := bind_some' h
    refine dd_one 1 (.call ⟨.value (.func 44), #[(.tmp 7)], #[34]⟩) (some 8) (by kernel_rfl) (o_callP (g_estoppelref01_Valid_ok h_26743) (by kernel_rfl) rfl) ?_
    refine dd_run 2 4 rfl (by kernel_rfl) ?_
    refine ite_both h (fun h_26744 h => ?_) (fun h_26744 h => ?_)
    · refine dd_skip 4 7 3 false rfl (b := (!x_26742)) (by kernel_rfl) h_26744 (by kernel_rfl) ?_
      refine dd_one 7 (.pick (.tmp 10) (.const (.bool true)) (.tmp 13)) (some 14) (by kernel_rfl) (o_pure (B true) (ev_pickT h_26744 (by kernel_rfl) (by kernel_rfl)) rfl) ?_
      refine dd_nil 8 rfl ?_
      exact hK_26741 _ _ (Option.some.inj h).symm (to_ren [] (leB rfl) (by kernel_rfl) (by kernel_rfl) (renE_of (by kernel_rfl) (by kernel_rfl)) trivial)
    · refine dd_runG 4 5 3 false rfl (b := (!x_26742)) (by kernel_rfl) h_26744 (by kernel_rfl) ?_
      obtain ⟨x_26745, h_26746, h⟩ := bind_some' h
      refine dd_oneG 5 (.call ⟨.value (.func 44), #[(.tmp 11)], #[34]⟩) (some 12) 3 false (b := (!x_26742)) (by kernel_rfl) (by kernel_rfl) h_26744 (o_callP (g_estoppelref01_Valid_ok h_26746) (by kernel_rfl) rfl) ?_
      refine dd_runG 6 7 3 false rfl (b := (!x_26742)) (by kernel_rfl) h_26744 (by kernel_rfl) ?_
      refine dd_one 7 (.pick (.tmp 10) (.const (.bool true)) (.tmp 13)) (some 14) (by kernel_rfl) (o_pure (B (!x_26745)) (ev_pickF h_26744 (by kernel_rfl) (by kernel_rfl)) rfl) ?_
      refine dd_nil 8 rfl ?_
      exact hK_26741 _ _ (Option.some.inj h).symm (to_ren [] (leB rfl) (by kernel_rfl) (by kernel_rfl) (renE_of (by kernel_rfl) (by kernel_rfl)) trivial)
  · refine w_seq (fun K hK_26748 => ?_)
    refine w_ite h (by kernel_rfl) (fun h_26749 h => ?_) (fun h_26749 h => ?_)
    · refine w_reg ⟨[(4, I 0)], [], 0⟩ (by kernel_rfl) (leB rfl) ?_
      refine w_ret ?_
      obtain rfl := ((Option.some.inj h).symm).symm
      exact ret_leaf (.inl rfl) ⟨[(4, I 0)], [], 0⟩ (to_ren [] (leB rfl) (by kernel_rfl) (by kernel_rfl) (renE_of (by kernel_rfl) (by kernel_rfl)) trivial) [I 0] (by kernel_rfl) (by kernel_rfl) (leB rfl) (by kernel_rfl) trivial
    · refine w_skip ?_
      refine hK_26748 _ ⟨[(2, .ip (cs_Ratio a1)), (3, .ip (cs_Ratio a2))], [], 0⟩ (to_trim (by kernel_rfl) (leB rfl)) ?_
      refine w_reg ⟨[(2, .ip (cs_Ratio a1)), (3, .ip (cs_Ratio a2)), (5, I (IntKind.i64.wrap (a1.Num * a2.Den)))], [], 0⟩ (by kernel_rfl) (leB rfl) ?_
      refine w_reg ⟨[(5, I (IntKind.i64.wrap (a1.Num * a2.Den))), (6, I (IntKind.i64.wrap (a2.Num * a1.Den)))], [], 0⟩ (by kernel_rfl) (leB rfl) ?_
      refine w_assoc ?_
      refine w_reg ⟨[(5, I (IntKind.i64.wrap (a1.Num * a2.Den))), (6, I (IntKind.i64.wrap (a2.Num * a1.Den))), (27, B (decide ((IntKind.i64.wrap (a1.Num * a2.Den)) < (IntKind.i64.wrap (a2.Num * a1.Den)))))], [], 0⟩ (by kernel_rfl) (leB rfl) ?_
      refine w_seq (fun K hK_26751 => ?_)
      refine w_ite h (by kernel_rfl) (fun h_26752 h => ?_) (fun h_26752 h => ?_)
      · refine w_reg ⟨[(4, I (-1))], [], 0⟩ (by kernel_rfl) (leB rfl) ?_
        refine w_ret ?_
        obtain rfl := ((Option.some.inj h).symm).symm
        exact ret_leaf (.inl rfl) ⟨[(4, I (-1))], [], 0⟩ (to_ren [] (leB rfl) (by kernel_rfl) (by kernel_rfl) (renE_of (by kernel_rfl) (by kernel_rfl)) trivial) [I (-1)] (by kernel_rfl) (by kernel_rfl) (leB rfl) (by kernel_rfl) trivial
      · refine w_skip ?_
        refine hK_26751 _ ⟨[(5, I (IntKind.i64.wrap (a1.Num * a2.Den))), (6, I (IntKind.i64.wrap (a2.Num * a1.Den)))], [], 0⟩ (to_trim (by kernel_rfl) (leB rfl)) ?_
        refine w_assoc ?_
        refine w_reg ⟨[(30, B (decide ((IntKind.i64.wrap (a1.Num * a2.Den)) > (IntKind.i64.wrap (a2.Num * a1.Den)))))], [], 0⟩ (by kernel_rfl) (leB rfl) ?_
        refine w_seq (fun K hK_26754 => ?_)
        refine w_ite h (by kernel_rfl) (fun h_26755 h => ?_) (fun h_26755 h => ?_)
        · refine w_reg ⟨[(4, I 1)], [], 0⟩ (by kernel_rfl) (leB rfl) ?_
          refine w_ret ?_
          obtain rfl := ((Option.some.inj h).symm).symm
          exact ret_leaf (.inl rfl) ⟨[(4, I 1)], [], 0⟩ (to_ren [] (leB rfl) (by kernel_rfl) (by kernel_rfl) (renE_of (by kernel_rfl) (by kernel_rfl)) trivial) [I 1] (by kernel_rfl) (by kernel_rfl) (leB rfl) (by kernel_rfl) trivial
        · refine w_skip ?_
          refine hK_26754 _ ⟨[], [], 0⟩ (to_trim (by kernel_rfl) (leB rfl)) ?_
          refine w_reg ⟨[(4, I 0)], [], 0⟩ (by kernel_rfl) (leB rfl) ?_
          refine w_ret ?_
          obtain rfl := ((Option.some.inj h).symm).symm
          exact ret_leaf (.inl rfl) ⟨[(4, I 0)], [], 0⟩ (to_ren [] (leB rfl) (by kernel_rfl) (by kernel_rfl) (renE_of (by kernel_rfl) (by kernel_rfl)) trivial) [I 0] (by kernel_rfl) (by kernel_rfl) (leB rfl) (by kernel_rfl) trivial
/-- estoppel/estoppelref42.extreme -/
def g_estoppelref42_extreme (a1 : List D.Ratio) (a2 : Int) : Option (Int) :=
  bindF (ρ := Int) (
  loopO (σ := Int × Int) (fun s_27343 =>
  if (decide (s_27343.2 < (a1.length : Int))) = true then
  (getI a1 s_27343.2).bind fun x_27390 =>
  (getI a1 s_27343.1).bind fun x_27394 =>
  (g_estoppelref01_Cmp x_27390 x_27394).bind fun x_27396 =>
  if (decide ((IntKind.i64.wrap (a2 * x_27396)) < 0)) = true then
  some (.inl (s_27343.2, (IntKind.i64.wrap (s_27343.2 + 1))))
  else
  some (.inl (s_27343.1, (IntKind.i64.wrap (s_27343.2 + 1))))
  else
  some (.inr (.inl s_27343.1))) (0, 1)) (fun (e_27232 : Int) =>
  some e_27232)
set_option maxHeartbeats 4000000 in
theorem g_estoppelref42_extreme_ok {a1 : List D.Ratio} {a2 : Int} {res : Int} (h : g_estoppelref42_extreme a1 a2 = some res) : SpecK Try.prog [] 37 [sl 2 cs_Ratio a1, I a2] [] 0 (I res) [] 0 := by
  refine ⟨spec_of_wp Try.func37 (by kernel_rfl) rfl Try.ntmps37 (by rw [Try.results37]) (leB rfl) ?_, by kernel_rfl, trivial, by kernel_rfl, trivial, by kernel_rfl⟩
  unfold g_estoppelref42_extreme at h
  refine w_reg ⟨[(0, sl 2 cs_Ratio a1), (1, I a2)], [], 0⟩ (by kernel_rfl) (leB rfl) ?_
  refine w_reg ⟨[(0, sl 2 cs_Ratio a1), (1, I a2), (5, I 0)], [], 0⟩ (by kernel_rfl) (leB rfl) ?_
  refine w_assoc ?_
  refine w_reg ⟨[(0, sl 2 cs_Ratio a1), (1, I a2), (5, I 0), (6, I 1)], [], 0⟩ (by kernel_rfl) (leB rfl) ?_
  refine w_cut h (fun (e_27232 : Int) => ⟨[(5, I e_27232)], [], 0⟩) (fun o h h_27233 K hK_27234 => ?_) (fun e_27232 h => ?_)
  · refine w_block ?_
    refine w_loopO h (fun (s_27343 : Int × Int) => ⟨[(0, sl 2 cs_Ratio a1), (1, I a2), (5, I s_27343.1), (6, I s_27343.2)], [], 0⟩) (to_ren [] (leB rfl) (by kernel_rfl) (by kernel_rfl) (renE_of (by kernel_rfl) (by kernel_rfl)) trivial) (fun s_27343 o h h_27344 K hK_27345 => ?_)
    · refine w_assoc ?_
      refine w_seq (fun K hK_27346 => w_reg0 ?_)
      refine dd_run 0 2 rfl (by kernel_rfl) ?_
      refine dd_one 2 (.call ⟨.builtin .len, #[(.tmp 8)], #[24]⟩) (some 9) (by kernel_rfl) (o_pure (I (a1.length : Int)) (ev_len_sl (e := 34) (ty := 0) (k := 2) (c := cs_Ratio) (by kernel_rfl) (by kernel_rfl)) rfl) ?_
      refine ops_fin' hK_27346 ⟨[(0, sl 2 cs_Ratio a1), (1, I a2), (5, I s_27343.1), (6, I s_27343.2), (10, B (decide (s_27343.2 < (a1.length : Int))))], [], 0⟩ (by kernel_rfl) (leB rfl) ?_
      refine w_seq (fun K hK_27348 => ?_)
      refine w_ite h (by kernel_rfl) (fun h_27349 h => ?_) (fun h_27349 h => ?_)
      · refine w_skip ?_
        refine hK_27348 _ ⟨[(0, sl 2 cs_Ratio a1), (1, I a2), (5, I s_27343.1), (6, I s_27343.2)], [], 0⟩ (to_trim (by kernel_rfl) (leB rfl)) ?_
        refine w_seq (fun K hK_27374 => ?_)
        refine w_block ?_
        refine w_seq (fun K hK_27387 => w_mix0 (by kernel_rfl) (by kernel_rfl) ?_)
        refine mm_run 0 3 rfl (by kernel_rfl) ?_
        obtain ⟨x_27390, h_27391, h⟩ := bind_some' h
        refine mm_one 3 (.indexAddr 24 (.tmp 14) (.tmp 15)) (some 16) (by kernel_rfl) (by kernel_rfl) (oH_pure (.ip (cs_Ratio x_27390)) (ev_idx_sl (e := 34) (k := 2) (c := cs_Ratio) (ik := .i64) h_27391 (by kernel_rfl) (by kernel_rfl) (by kernel_rfl) (by kernel_rfl)) rfl) ?_
        refine mm_run 4 7 rfl (by kernel_rfl) ?_
        obtain ⟨x_27394, h_27395, h⟩ := bind_some' h
        refine mm_one 7 (.indexAddr 24 (.tmp 18) (.tmp 19)) (some 20) (by kernel_rfl) (by kernel_rfl) (oH_pure (.ip (cs_Ratio x_27394)) (ev_idx_sl (e := 34) (k := 2) (c := cs_Ratio) (ik := .i64) h_27395 (by kernel_rfl) (by kernel_rfl) (by kernel_rfl) (by kernel_rfl)) rfl) ?_
        refine mm_run 8 9 rfl (by kernel_rfl) ?_
        obtain ⟨x_27396, h_27397, h⟩ := bind_some' h
        refine mm_one 9 (.call ⟨.value (.func 38), #[(.tmp 17), (.tmp 21)], #[34, 34]⟩) (some 22) (by kernel_rfl) (by kernel_rfl) (oH_callP (g_estoppelref01_Cmp_ok h_27397) (by kernel_rfl) rfl) ?_
        refine mix_fin' hK_27387 ⟨[(0, sl 2 cs_Ratio a1), (1, I a2), (5, I s_27343.1), (6, I s_27343.2), (24, B (decide ((IntKind.i64.wrap (a2 * x_27396)) < 0)))], [], 0⟩ (by kernel_rfl) (leB rfl) ?_
        refine w_ite h (by kernel_rfl) (fun h_27398 h => ?_) (fun h_27398 h => ?_)
        · refine w_reg0 ?_
          refine dd_run 0 2 rfl (by kernel_rfl) ?_
          refine dd_nil 2 rfl ?_
          refine hK_27374 _ ⟨[(0, sl 2 cs_Ratio a1), (1, I a2), (5, I s_27343.2), (6, I s_27343.2)], [], 0⟩ (to_trim (by kernel_rfl) (leB rfl)) ?_
          refine w_reg0 ?_
          refine dd_run 0 3 rfl (by kernel_rfl) ?_
          refine dd_nil 3 rfl ?_
          exact hK_27345 _ _ (Option.some.inj h).symm (to_ren [] (leB rfl) (by kernel_rfl) (by kernel_rfl) (renE_of (by kernel_rfl) (by kernel_rfl)) trivial)
        · refine w_skip ?_
          refine hK_27374 _ ⟨[(0, sl 2 cs_Ratio a1), (1, I a2), (5, I s_27343.1), (6, I s_27343.2)], [], 0⟩ (to_trim (by kernel_rfl) (leB rfl)) ?_
          refine w_reg0 ?_
          refine dd_run 0 3 rfl (by kernel_rfl) ?_
          refine dd_nil 3 rfl ?_
          exact hK_27345 _ _ (Option.some.inj h).symm (to_ren [] (leB rfl) (by kernel_rfl) (by kernel_rfl) (renE_of (by kernel_rfl) (by kernel_rfl)) trivial)
      · refine w_exit ?_
        exact hK_27234 _ _ (h_27344 _ (Option.some.inj h).symm).symm (to_ren [] (leB rfl) (by kernel_rfl) (by kernel_rfl) (renE_of (by kernel_rfl) (by kernel_rfl)) trivial)
  · refine w_reg ⟨[(4, I e_27232)], [], 0⟩ (by kernel_rfl) (leB rfl) ?_
    refine w_ret ?_
    obtain rfl := ((Option.some.inj h).symm).symm
    exact ret_leaf (.inl rfl) ⟨[(4, I e_27232)], [], 0⟩ (to_ren [] (leB rfl) (by kernel_rfl) (by kernel_rfl) (renE_of (by kernel_rfl) (by kernel_rfl)) trivial) [I e_27232] (by kernel_rfl) (by kernel_rfl) (leB rfl) (by kernel_rfl) trivial
/-- estoppel/estoppelref42.extreme -/
def g_estoppelref42_extreme_o (a1 : List D.Ratio) (a2 : Int) : Option (Int) :=
  bindF (ρ := Int) (
  loopO (σ := Int × Int) (fun s_28107 =>
  if (decide (s_28107.2 < (a1.length : Int))) = true then
  (getI a1 s_28107.2).bind fun x_28153 =>
  (getI a1 s_28107.1).bind fun x_28157 =>
  (g_estoppelref01_Cmp x_28153 x_28157).bind fun x_28159 =>
  if (decide ((IntKind.i64.wrap (a2 * x_28159)) < 0)) = true then
  some (.inl (s_28107.2, (IntKind.i64.wrap (s_28107.2 + 1))))
  else
  some (.inl (s_28107.1, (IntKind.i64.wrap (s_28107.2 + 1))))
  else
  some (.inr (.inl s_28107.1))) (0, 1)) (fun (e_27998 : Int) =>
  some e_27998)
set_option maxHeartbeats 4000000 in
theorem g_estoppelref42_extreme_o_ok {a1 : List D.Ratio} {a2 : Int} {res : Int} (h : g_estoppelref42_extreme_o a1 a2 = some res) : SpecK Try.prog [0] 37 [.own 0 a1.length, I a2] [(0, ⟨34, 2, flat cs_Ratio a1⟩)] 1 (I res) [(0, ⟨34, 2, flat cs_Ratio a1⟩)] 1 := by
  refine ⟨spec_of_wp Try.func37 (by kernel_rfl) rfl Try.ntmps37 (by rw [Try.results37]) (leB rfl) ?_, by kernel_rfl, ⟨⟨leB rfl, flat_all (AV.keyed 0 4) (fun _ => rfl) _⟩, trivial⟩, by kernel_rfl, ⟨⟨leB rfl, flat_all (AV.keyed 0 4) (fun _ => rfl) _⟩, trivial⟩, by kernel_rfl⟩
  unfold g_estoppelref42_extreme_o at h
  refine w_reg ⟨[(0, .own 0 a1.length), (1, I a2)], [(0, ⟨34, 2, flat cs_Ratio a1⟩)], 1⟩ (by kernel_rfl) (leB rfl) ?_
  refine w_reg ⟨[(0, .own 0 a1.length), (1, I a2), (5, I 0)], [(0, ⟨34, 2, flat cs_Ratio a1⟩)], 1⟩ (by kernel_rfl) (leB rfl) ?_
  refine w_assoc ?_
  refine w_reg ⟨[(0, .own 0 a1.length), (1, I a2), (5, I 0), (6, I 1)], [(0, ⟨34, 2, flat cs_Ratio a1⟩)], 1⟩ (by kernel_rfl) (leB rfl) ?_
  refine w_cut h (fun (e_27998 : Int) => ⟨[(5, I e_27998)], [(0, ⟨34, 2, flat cs_Ratio a1⟩)], 1⟩) (fun o h h_27999 K hK_28000 => ?_) (fun e_27998 h => ?_)
  · refine w_block ?_
    refine w_loopO h (fun (s_28107 : Int × Int) => ⟨[(0, .own 0 a1.length), (1, I a2), (5, I s_28107.1), (6, I s_28107.2)], [(0, ⟨34, 2, flat cs_Ratio a1⟩)], 1⟩) (to_ren [] (leB rfl) (by kernel_rfl) (by kernel_rfl) (renE_of (by kernel_rfl) (by kernel_rfl)) ⟨rePl (by kernel_rfl) (leB rfl) (flat_all _ (fun _ => rfl) _), trivial⟩) (fun s_28107 o h h_28108 K hK_28109 => ?_)
    · refine w_assoc ?_
      refine w_reg ⟨[(0, .own 0 a1.length), (1, I a2), (5, I s_28107.1), (6, I s_28107.2), (10, B (decide (s_28107.2 < (a1.length : Int))))], [(0, ⟨34, 2, flat cs_Ratio a1⟩)], 1⟩ (by kernel_rfl) (leB rfl) ?_
      refine w_seq (fun K hK_28111 => ?_)
      refine w_ite h (by kernel_rfl) (fun h_28112 h => ?_) (fun h_28112 h => ?_)
      · refine w_skip ?_
        refine hK_28111 _ ⟨[(0, .own 0 a1.length), (1, I a2), (5, I s_28107.1), (6, I s_28107.2)], [(0, ⟨34, 2, flat cs_Ratio a1⟩)], 1⟩ (to_trim (by kernel_rfl) (leB rfl)) ?_
        refine w_seq (fun K hK_28137 => ?_)
        refine w_block ?_
        refine w_seq (fun K hK_28150 => w_mix0 (by kernel_rfl) (by kernel_rfl) ?_)
        refine mm_run 0 3 rfl (by kernel_rfl) ?_
        obtain ⟨x_28153, h_28154, h⟩ := bind_some' h
        refine mm_one 3 (.indexAddr 24 (.tmp 14) (.tmp 15)) (some 16) (by kernel_rfl) (by kernel_rfl) (oH_pure (.ptr 0 (s_28107.2.toNat * 2)) (ev_idx_own (N := a1.length) (e := 34) (k := 2) (ik := .i64) h_28154 rfl (by kernel_rfl) (by kernel_rfl) (by kernel_rfl) (by kernel_rfl)) rfl) ?_
        refine mm_one 4 (.load 34 (.tmp 16)) (some 17) (by kernel_rfl) (by kernel_rfl) (oH_pure (.agg (cs_Ratio x_28153)) (ev_load_row (o := s_28107.2.toNat * 2) (b := 0) (i := s_28107.2.toNat) (j := 0) (k := 2) (c := cs_Ratio) (sz := 2) (ty := 34) (fun _ => rfl) (getI_some h_28154).2 rfl (by kernel_rfl) (by kernel_rfl) (by kernel_rfl)) rfl) ?_
        refine mm_run 5 7 rfl (by kernel_rfl) ?_
        obtain ⟨x_28157, h_28158, h⟩ := bind_some' h
        refine mm_one 7 (.indexAddr 24 (.tmp 18) (.tmp 19)) (some 20) (by kernel_rfl) (by kernel_rfl) (oH_pure (.ptr 0 (s_28107.1.toNat * 2)) (ev_idx_own (N := a1.length) (e := 34) (k := 2) (ik := .i64) h_28158 rfl (by kernel_rfl) (by kernel_rfl) (by kernel_rfl) (by kernel_rfl)) rfl) ?_
        refine mm_one 8 (.load 34 (.tmp 20)) (some 21) (by kernel_rfl) (by kernel_rfl) (oH_pure (.agg (cs_Ratio x_28157)) (ev_load_row (o := s_28107.1.toNat * 2) (b := 0) (i := s_28107.1.toNat) (j := 0) (k := 2) (c := cs_Ratio) (sz := 2) (ty := 34) (fun _ => rfl) (getI_some h_28158).2 rfl (by kernel_rfl) (by kernel_rfl) (by kernel_rfl)) rfl) ?_
        obtain ⟨x_28159, h_28160, h⟩ := bind_some' h
        refine mm_one 9 (.call ⟨.value (.func 38), #[(.tmp 17), (.tmp 21)], #[34, 34]⟩) (some 22) (by kernel_rfl) (by kernel_rfl) (oH_callP (g_estoppelref01_Cmp_ok h_28160) (by kernel_rfl) rfl) ?_
        refine mix_fin' hK_28150 ⟨[(0, .own 0 a1.length), (1, I a2), (5, I s_28107.1), (6, I s_28107.2), (24, B (decide ((IntKind.i64.wrap (a2 * x_28159)) < 0)))], [(0, ⟨34, 2, flat cs_Ratio a1⟩)], 1⟩ (by kernel_rfl) (leB rfl) ?_
        refine w_ite h (by kernel_rfl) (fun h_28161 h => ?_) (fun h_28161 h => ?_)
        · refine w_reg0 ?_
          refine dd_run 0 2 rfl (by kernel_rfl) ?_
          refine dd_nil 2 rfl ?_
          refine hK_28137 _ ⟨[(0, .own 0 a1.length), (1, I a2), (5, I s_28107.2), (6, I s_28107.2)], [(0, ⟨34, 2, flat cs_Ratio a1⟩)], 1⟩ (to_trim (by kernel_rfl) (leB rfl)) ?_
          refine w_reg0 ?_
          refine dd_run 0 3 rfl (by kernel_rfl) ?_
          refine dd_nil 3 rfl ?_
          exact hK_28109 _ _ (Option.some.inj h).symm (to_ren [] (leB rfl) (by kernel_rfl) (by kernel_rfl) (renE_of (by kernel_rfl) (by kernel_rfl)) ⟨rePl (by kernel_rfl) (leB rfl) (flat_all _ (fun _ => rfl) _), trivial⟩)
        · refine w_skip ?_
          refine hK_28137 _ ⟨[(0, .own 0 a1.length), (1, I a2), (5, I s_28107.1), (6, I s_28107.2)], [(0, ⟨34, 2, flat cs_Ratio a1⟩)], 1⟩ (to_trim (by kernel_rfl) (leB rfl)) ?_
          refine w_reg0 ?_
          refine dd_run 0 3 rfl (by kernel_rfl) ?_
          refine dd_nil 3 rfl ?_
          exact hK_28109 _ _ (Option.some.inj h).symm (to_ren [] (leB rfl) (by kernel_rfl) (by kernel_rfl) (renE_of (by kernel_rfl) (by kernel_rfl)) ⟨rePl (by kernel_rfl) (leB rfl) (flat_all _ (fun _ => rfl) _), trivial⟩)
      · refine w_exit ?_
        exact hK_28000 _ _ (h_28108 _ (Option.some.inj h).symm).symm (to_ren [] (leB rfl) (by kernel_rfl) (by kernel_rfl) (renE_of (by kernel_rfl) (by kernel_rfl)) ⟨rePl (by kernel_rfl) (leB rfl) (flat_all _ (fun _ => rfl) _), trivial⟩)
  · refine w_reg ⟨[(4, I e_27998)], [(0, ⟨34, 2, flat cs_Ratio a1⟩)], 1⟩ (by kernel_rfl) (leB rfl) ?_
    refine w_ret ?_
    obtain rfl := ((Option.some.inj h).symm).symm
    exact ret_leaf (.inl rfl) ⟨[(4, I e_27998)], [(0, ⟨34, 2, flat cs_Ratio a1⟩)], 1⟩ (to_ren [] (leB rfl) (by kernel_rfl) (by kernel_rfl) (renE_of (by kernel_rfl) (by kernel_rfl)) ⟨rePl (by kernel_rfl) (leB rfl) (flat_all _ (fun _ => rfl) _), trivial⟩) [I e_27998] (by kernel_rfl) (by kernel_rfl) (leB rfl) (by kernel_rfl) ⟨⟨by kernel_rfl, leB rfl, (flat_all _ (fun _ => rfl) _)⟩, trivial⟩
end Go.Proofs.Ytgggekjhfdkgkaa.Ab
