/- DateYears returns true: for every year from 1990 to 2188 its length in days is 366 or 365 as the calendar says, and February 29 exists in leap years only. The law's table of days is tied to the program's text. -/
import Derived.Test.YthnjbcdfcpchnaaDoorDateHead
import Derived.Test.YthnjbcdfcpchnaaDoorFrame
namespace Go.Proofs.YthnjbcdfcpchnaaDoor.dateYears
open Go.ChangeShapes Go.WideShapes Go.ChangeAt Go.RowKit Go.Shelf

theorem plain_yes (y : Int) (h1 : 1990 ≤ y) (h2 : y ≤ 2188) (h : Cal.leapB y = true) :
    Cal.okB y 1 1 = true ∧ Cal.okB (y + 1) 1 1 = true ∧ Cal.num (y + 1) 1 1 = Cal.num y 1 1 + 366 ∧ Cal.okB y 2 29 = true := by
  have a := Cal.days_step y 1 (by omega) (by omega)
  have b := Cal.days_step (y + 1) 1 (by omega) (by omega)
  have l : Cal.lp y = 1 := by unfold Cal.lp; rw [if_pos h]
  refine ⟨Cal.ok_iff.2 ⟨by omega, by omega, by omega, by omega, by omega, by omega⟩, Cal.ok_iff.2 ⟨by omega, by omega, by omega, by omega, by omega, by omega⟩, ?_, Cal.ok_iff.2 ⟨by omega, by omega, by omega, by omega, by omega, ?_⟩⟩
  · unfold Cal.num; rw [Cal.start_succ, show (1 : Int) - 1 = 0 by decide, Cal.days_zero, Cal.days_zero, l]; omega
  · unfold Cal.days Cal.cum; simp [l]
theorem plain_no (y : Int) (h1 : 1990 ≤ y) (h2 : y ≤ 2188) (h : Cal.leapB y = false) :
    Cal.okB y 1 1 = true ∧ Cal.okB (y + 1) 1 1 = true ∧ Cal.num (y + 1) 1 1 = Cal.num y 1 1 + 365 ∧ Cal.okB y 2 29 = false := by
  have a := Cal.days_step y 1 (by omega) (by omega)
  have b := Cal.days_step (y + 1) 1 (by omega) (by omega)
  have l : Cal.lp y = 0 := by unfold Cal.lp; rw [if_neg (by simp [h])]
  refine ⟨Cal.ok_iff.2 ⟨by omega, by omega, by omega, by omega, by omega, by omega⟩, Cal.ok_iff.2 ⟨by omega, by omega, by omega, by omega, by omega, by omega⟩, ?_, ?_⟩
  · unfold Cal.num; rw [Cal.start_succ, show (1 : Int) - 1 = 0 by decide, Cal.days_zero, Cal.days_zero, l]; omega
  · rw [← Bool.not_eq_true]; intro hc
    have := (Cal.ok_iff.1 hc).2.2.2.2.2
    unfold Cal.days Cal.cum at this; simp [l] at this

theorem walk_no4 (y raw N N29 : Int) (w : World) (r0 : 0 ≤ raw) (r1 : raw ≤ 65535) (hy : 1990 + raw % 199 = y) (P1 : Hid (Cal.okB y 1 1 = true)) (P2 : Hid (Cal.okB (y + 1) 1 1 = true)) (P3 : Hid (Cal.num (y + 1) 1 1 = N + 365)) (HN : Hid (Cal.num y 1 1 = N))
    (b1 : 0 ≤ N) (b2 : N ≤ 73048) (P4 : Hid (Cal.okB y 2 29 = false)) (H29 : Hid (Cal.num y 2 29 = N29)) (HT : Hid (Table w)) (c1 : ¬ y % 4 = 0) :
    Calls Tryd.prog 4 #[.int .u16 raw] w fun e w' => e = .returned (.bool true) ∧ Below w.heap.size w w' := by
  go_enter Tryd.func4, Tryd.ntmps4
  go_wp2_with (first
    | (go_at_call 9; (with_reducible refine (head_any _ (HT.out.keep (by repeat (first | exact Below.refl _ _ | exact Kin.below _ | refine below_alloc ?_ _)))).mono ?_); rintro e w' ⟨rfl, hb⟩; obtain ⟨x, rfl⟩ := Kin.more (W := w) (by repeat (first | exact Below.refl _ _ | exact Kin.below _ | refine below_alloc ?_ _)) hb; clear hb)
    | (go_at_call 10; (with_reducible refine (number_is y 1 1 N _ P1.out HN.out (HT.out.keep (by repeat (first | exact Below.refl _ _ | exact Kin.below _ | refine below_alloc ?_ _))) (Table.pos (HT.out.keep (by repeat (first | exact Below.refl _ _ | exact Kin.below _ | refine below_alloc ?_ _))))).mono ?_); rintro e w' ⟨rfl, hb⟩; obtain ⟨x, rfl⟩ := Kin.more (W := w) (by repeat (first | exact Below.refl _ _ | exact Kin.below _ | refine below_alloc ?_ _)) hb; clear hb)
    | (go_at_call 10; (with_reducible refine (number_is (y + 1) 1 1 (N + 365) _ P2.out P3.out (HT.out.keep (by repeat (first | exact Below.refl _ _ | exact Kin.below _ | refine below_alloc ?_ _))) (Table.pos (HT.out.keep (by repeat (first | exact Below.refl _ _ | exact Kin.below _ | refine below_alloc ?_ _))))).mono ?_); rintro e w' ⟨rfl, hb⟩; obtain ⟨x, rfl⟩ := Kin.more (W := w) (by repeat (first | exact Below.refl _ _ | exact Kin.below _ | refine below_alloc ?_ _)) hb; clear hb)
    | (go_at_call 10; (with_reducible refine (number_no _ _ _ _ P4.out (HT.out.keep (by repeat (first | exact Below.refl _ _ | exact Kin.below _ | refine below_alloc ?_ _))) (Table.pos (HT.out.keep (by repeat (first | exact Below.refl _ _ | exact Kin.below _ | refine below_alloc ?_ _)))) (by decide) (by decide)).mono ?_); rintro e w' ⟨rfl, hb⟩; obtain ⟨x, rfl⟩ := Kin.more (W := w) (by repeat (first | exact Below.refl _ _ | exact Kin.below _ | refine below_alloc ?_ _)) hb; clear hb))
  go_ret
  exact ⟨rfl, Kin.below _⟩
theorem walk_no100 (y raw N N29 : Int) (w : World) (r0 : 0 ≤ raw) (r1 : raw ≤ 65535) (hy : 1990 + raw % 199 = y) (P1 : Hid (Cal.okB y 1 1 = true)) (P2 : Hid (Cal.okB (y + 1) 1 1 = true)) (P3 : Hid (Cal.num (y + 1) 1 1 = N + 365)) (HN : Hid (Cal.num y 1 1 = N))
    (b1 : 0 ≤ N) (b2 : N ≤ 73048) (P4 : Hid (Cal.okB y 2 29 = false)) (H29 : Hid (Cal.num y 2 29 = N29)) (HT : Hid (Table w)) (c1 : y % 4 = 0) (c2 : y % 100 = 0) (c3 : ¬ y % 400 = 0) :
    Calls Tryd.prog 4 #[.int .u16 raw] w fun e w' => e = .returned (.bool true) ∧ Below w.heap.size w w' := by
  go_enter Tryd.func4, Tryd.ntmps4
  go_wp2_with (first
    | (go_at_call 9; (with_reducible refine (head_any _ (HT.out.keep (by repeat (first | exact Below.refl _ _ | exact Kin.below _ | refine below_alloc ?_ _)))).mono ?_); rintro e w' ⟨rfl, hb⟩; obtain ⟨x, rfl⟩ := Kin.more (W := w) (by repeat (first | exact Below.refl _ _ | exact Kin.below _ | refine below_alloc ?_ _)) hb; clear hb)
    | (go_at_call 10; (with_reducible refine (number_is y 1 1 N _ P1.out HN.out (HT.out.keep (by repeat (first | exact Below.refl _ _ | exact Kin.below _ | refine below_alloc ?_ _))) (Table.pos (HT.out.keep (by repeat (first | exact Below.refl _ _ | exact Kin.below _ | refine below_alloc ?_ _))))).mono ?_); rintro e w' ⟨rfl, hb⟩; obtain ⟨x, rfl⟩ := Kin.more (W := w) (by repeat (first | exact Below.refl _ _ | exact Kin.below _ | refine below_alloc ?_ _)) hb; clear hb)
    | (go_at_call 10; (with_reducible refine (number_is (y + 1) 1 1 (N + 365) _ P2.out P3.out (HT.out.keep (by repeat (first | exact Below.refl _ _ | exact Kin.below _ | refine below_alloc ?_ _))) (Table.pos (HT.out.keep (by repeat (first | exact Below.refl _ _ | exact Kin.below _ | refine below_alloc ?_ _))))).mono ?_); rintro e w' ⟨rfl, hb⟩; obtain ⟨x, rfl⟩ := Kin.more (W := w) (by repeat (first | exact Below.refl _ _ | exact Kin.below _ | refine below_alloc ?_ _)) hb; clear hb)
    | (go_at_call 10; (with_reducible refine (number_no _ _ _ _ P4.out (HT.out.keep (by repeat (first | exact Below.refl _ _ | exact Kin.below _ | refine below_alloc ?_ _))) (Table.pos (HT.out.keep (by repeat (first | exact Below.refl _ _ | exact Kin.below _ | refine below_alloc ?_ _)))) (by decide) (by decide)).mono ?_); rintro e w' ⟨rfl, hb⟩; obtain ⟨x, rfl⟩ := Kin.more (W := w) (by repeat (first | exact Below.refl _ _ | exact Kin.below _ | refine below_alloc ?_ _)) hb; clear hb))
  go_ret
  exact ⟨rfl, Kin.below _⟩
theorem walk_yes4 (y raw N N29 : Int) (w : World) (r0 : 0 ≤ raw) (r1 : raw ≤ 65535) (hy : 1990 + raw % 199 = y) (P1 : Hid (Cal.okB y 1 1 = true)) (P2 : Hid (Cal.okB (y + 1) 1 1 = true)) (P3 : Hid (Cal.num (y + 1) 1 1 = N + 366)) (HN : Hid (Cal.num y 1 1 = N))
    (b1 : 0 ≤ N) (b2 : N ≤ 73048) (P4 : Hid (Cal.okB y 2 29 = true)) (H29 : Hid (Cal.num y 2 29 = N29)) (HT : Hid (Table w)) (c1 : y % 4 = 0) (c2 : ¬ y % 100 = 0) :
    Calls Tryd.prog 4 #[.int .u16 raw] w fun e w' => e = .returned (.bool true) ∧ Below w.heap.size w w' := by
  go_enter Tryd.func4, Tryd.ntmps4
  go_wp2_with (first
    | (go_at_call 9; (with_reducible refine (head_any _ (HT.out.keep (by repeat (first | exact Below.refl _ _ | exact Kin.below _ | refine below_alloc ?_ _)))).mono ?_); rintro e w' ⟨rfl, hb⟩; obtain ⟨x, rfl⟩ := Kin.more (W := w) (by repeat (first | exact Below.refl _ _ | exact Kin.below _ | refine below_alloc ?_ _)) hb; clear hb)
    | (go_at_call 10; (with_reducible refine (number_is y 1 1 N _ P1.out HN.out (HT.out.keep (by repeat (first | exact Below.refl _ _ | exact Kin.below _ | refine below_alloc ?_ _))) (Table.pos (HT.out.keep (by repeat (first | exact Below.refl _ _ | exact Kin.below _ | refine below_alloc ?_ _))))).mono ?_); rintro e w' ⟨rfl, hb⟩; obtain ⟨x, rfl⟩ := Kin.more (W := w) (by repeat (first | exact Below.refl _ _ | exact Kin.below _ | refine below_alloc ?_ _)) hb; clear hb)
    | (go_at_call 10; (with_reducible refine (number_is (y + 1) 1 1 (N + 366) _ P2.out P3.out (HT.out.keep (by repeat (first | exact Below.refl _ _ | exact Kin.below _ | refine below_alloc ?_ _))) (Table.pos (HT.out.keep (by repeat (first | exact Below.refl _ _ | exact Kin.below _ | refine below_alloc ?_ _))))).mono ?_); rintro e w' ⟨rfl, hb⟩; obtain ⟨x, rfl⟩ := Kin.more (W := w) (by repeat (first | exact Below.refl _ _ | exact Kin.below _ | refine below_alloc ?_ _)) hb; clear hb)
    | (go_at_call 10; (with_reducible refine (number_is _ 2 29 N29 _ P4.out H29.out (HT.out.keep (by repeat (first | exact Below.refl _ _ | exact Kin.below _ | refine below_alloc ?_ _))) (Table.pos (HT.out.keep (by repeat (first | exact Below.refl _ _ | exact Kin.below _ | refine below_alloc ?_ _))))).mono ?_); rintro e w' ⟨rfl, hb⟩; obtain ⟨x, rfl⟩ := Kin.more (W := w) (by repeat (first | exact Below.refl _ _ | exact Kin.below _ | refine below_alloc ?_ _)) hb; clear hb))
  go_ret
  exact ⟨rfl, Kin.below _⟩
theorem walk_yes400 (y raw N N29 : Int) (w : World) (r0 : 0 ≤ raw) (r1 : raw ≤ 65535) (hy : 1990 + raw % 199 = y) (P1 : Hid (Cal.okB y 1 1 = true)) (P2 : Hid (Cal.okB (y + 1) 1 1 = true)) (P3 : Hid (Cal.num (y + 1) 1 1 = N + 366)) (HN : Hid (Cal.num y 1 1 = N))
    (b1 : 0 ≤ N) (b2 : N ≤ 73048) (P4 : Hid (Cal.okB y 2 29 = true)) (H29 : Hid (Cal.num y 2 29 = N29)) (HT : Hid (Table w)) (c1 : y % 4 = 0) (c2 : y % 100 = 0) (c3 : y % 400 = 0) :
    Calls Tryd.prog 4 #[.int .u16 raw] w fun e w' => e = .returned (.bool true) ∧ Below w.heap.size w w' := by
  go_enter Tryd.func4, Tryd.ntmps4
  go_wp2_with (first
    | (go_at_call 9; (with_reducible refine (head_any _ (HT.out.keep (by repeat (first | exact Below.refl _ _ | exact Kin.below _ | refine below_alloc ?_ _)))).mono ?_); rintro e w' ⟨rfl, hb⟩; obtain ⟨x, rfl⟩ := Kin.more (W := w) (by repeat (first | exact Below.refl _ _ | exact Kin.below _ | refine below_alloc ?_ _)) hb; clear hb)
    | (go_at_call 10; (with_reducible refine (number_is y 1 1 N _ P1.out HN.out (HT.out.keep (by repeat (first | exact Below.refl _ _ | exact Kin.below _ | refine below_alloc ?_ _))) (Table.pos (HT.out.keep (by repeat (first | exact Below.refl _ _ | exact Kin.below _ | refine below_alloc ?_ _))))).mono ?_); rintro e w' ⟨rfl, hb⟩; obtain ⟨x, rfl⟩ := Kin.more (W := w) (by repeat (first | exact Below.refl _ _ | exact Kin.below _ | refine below_alloc ?_ _)) hb; clear hb)
    | (go_at_call 10; (with_reducible refine (number_is (y + 1) 1 1 (N + 366) _ P2.out P3.out (HT.out.keep (by repeat (first | exact Below.refl _ _ | exact Kin.below _ | refine below_alloc ?_ _))) (Table.pos (HT.out.keep (by repeat (first | exact Below.refl _ _ | exact Kin.below _ | refine below_alloc ?_ _))))).mono ?_); rintro e w' ⟨rfl, hb⟩; obtain ⟨x, rfl⟩ := Kin.more (W := w) (by repeat (first | exact Below.refl _ _ | exact Kin.below _ | refine below_alloc ?_ _)) hb; clear hb)
    | (go_at_call 10; (with_reducible refine (number_is _ 2 29 N29 _ P4.out H29.out (HT.out.keep (by repeat (first | exact Below.refl _ _ | exact Kin.below _ | refine below_alloc ?_ _))) (Table.pos (HT.out.keep (by repeat (first | exact Below.refl _ _ | exact Kin.below _ | refine below_alloc ?_ _))))).mono ?_); rintro e w' ⟨rfl, hb⟩; obtain ⟨x, rfl⟩ := Kin.more (W := w) (by repeat (first | exact Below.refl _ _ | exact Kin.below _ | refine below_alloc ?_ _)) hb; clear hb))
  go_ret
  exact ⟨rfl, Kin.below _⟩

theorem walk (raw : Int) (w : World) (r0 : 0 ≤ raw) (r1 : raw ≤ 65535) (ht : Table w) :
    Calls Tryd.prog 4 #[.int .u16 raw] w fun e w' => e = .returned (.bool true) ∧ Below w.heap.size w w' := by
  have hy : 1990 + raw % 199 = 1990 + raw % 199 := rfl
  cases hl : Cal.leapB (1990 + raw % 199)
  · obtain ⟨p1, p2, p3, p4⟩ := plain_no _ (by omega) (by omega) hl
    obtain ⟨b1, b2⟩ := Cal.num_bd p1
    have hl2 : ¬ ((1990 + raw % 199) % 4 = 0 ∧ ((1990 + raw % 199) % 100 ≠ 0 ∨ (1990 + raw % 199) % 400 = 0)) := fun h => by rw [(Cal.leapB_iff _).2 h] at hl; cases hl
    by_cases c1 : (1990 + raw % 199) % 4 = 0
    · exact walk_no100 _ raw _ _ w r0 r1 rfl p1 p2 p3 rfl b1 b2 p4 rfl ht c1 (by omega) (by omega)
    · exact walk_no4 _ raw _ _ w r0 r1 rfl p1 p2 p3 rfl b1 b2 p4 rfl ht c1
  · obtain ⟨p1, p2, p3, p4⟩ := plain_yes _ (by omega) (by omega) hl
    obtain ⟨b1, b2⟩ := Cal.num_bd p1
    have hl2 := (Cal.leapB_iff _).1 hl
    by_cases c1 : (1990 + raw % 199) % 100 = 0
    · exact walk_yes400 _ raw _ _ w r0 r1 rfl p1 p2 p3 rfl b1 b2 p4 rfl ht hl2.1 c1 (by omega)
    · exact walk_yes4 _ raw _ _ w r0 r1 rfl p1 p2 p3 rfl b1 b2 p4 rfl ht hl2.1 c1

theorem own : ownKnob Tryd.prog.godebug = none := by kernel_rfl
theorem laidOut : laidOutB Tryd.prog = true := by kernel_rfl
theorem types_ok : ∀ t ∈ Tryd.f4.params.toList, Tryd.prog.readableRec t = true ∧ t < Tryd.prog.types.size := by
  rw [Tryd.params4]
  intro t ht
  simp only [List.mem_cons, List.not_mem_nil, or_false] at ht
  subst ht
  exact ⟨(show Tryd.prog.readableRec 32 = true by kernel_rfl), of_decide_eq_true (by kernel_rfl)⟩
theorem gTab : Tryd.prog.globalNamed "estoppel/date.before" = some 0 := by kernel_rfl
theorem gTabType : (Tryd.prog.globals[0]?).map (·.type) = some 52 := by kernel_rfl
theorem cellsA : Tryd.prog.cellsOf 52 = 13 := by kernel_rfl
theorem cells3 : Tryd.prog.cellsOf 3 = 1 := by kernel_rfl
theorem table {W : World} (h : laidMetH Tryd.prog Rows.dateYearsRow.laid W) : Table W := by
  have ht : Lib.TabIs Tryd.prog W "estoppel/date.before" .i64 [0, 31, 59, 90, 120, 151, 181, 212, 243, 273, 304, 334, 365] := Lib.tabIs_of_head (rest := []) gTab gTabType Tryd.underlying52 Tryd.underlying3 cells3 cellsA h
  intro m hm
  have hc := ht.cell gTab m (by simp; omega)
  rw [hc]
  obtain rfl | rfl | rfl | rfl | rfl | rfl | rfl | rfl | rfl | rfl | rfl | rfl | rfl : m = 0 ∨ m = 1 ∨ m = 2 ∨ m = 3 ∨ m = 4 ∨ m = 5 ∨ m = 6 ∨ m = 7 ∨ m = 8 ∨ m = 9 ∨ m = 10 ∨ m = 11 ∨ m = 12 := by omega
  all_goals rfl

/-- What the walk gives, for every argument and every world that holds the table. -/
theorem contract (H : Type) (enc : TypeId × Value → H) (W : World) (base : Nat) (args : Array Value) (ds gs : List (DataW H)) (before : List MemPlace)
    (hval : ∀ (j : Nat) t v, Tryd.f4.params[j]? = some t → args[j]? = some v → Value.okWide Tryd.prog W .any base t v)
    (hW : DataW.Whole enc Tryd.prog Tryd.f4.params.toList Rows.dateYearsSpec.vars false W args.toList ds gs before) (hL : laidMetH Tryd.prog Rows.dateYearsRow.laid W) :
    Calls Tryd.prog 4 args W fun e W' => ∃ v, e = .returned v ∧ Rows.dateYearsSpec.post enc Tryd.prog Tryd.f4 false true false false W args v W' := by
  have hW' := hW
  obtain ⟨p, q, hA0, hV, rfl, hfz, hnd⟩ := hW
  obtain ⟨rfl, rfl⟩ := trodVars_none hV
  have hA := hA0
  rw [Tryd.params4] at hA hval
  obtain ⟨v0, vs0, d0, ds0, p0, q0, hargs, rfl, rfl, h0, r0⟩ := trodAll_cons hA
  obtain ⟨rfl, rfl, rfl⟩ := trodAll_nil r0
  obtain rfl : args = #[v0] := by cases args; simp_all
  obtain ⟨x0, rfl, rfl, rfl, wx0⟩ := open_int Tryd.underlying32 (hval 0 32 v0 rfl rfl) h0
  have bd0 := bounds_u16 wx0
  simp only [List.append_nil] at hW' hA0 ⊢
  refine (walk x0 W bd0.1 bd0.2 (table hL)).mono fun e W' ⟨he, hb⟩ => ?_
  subst he
  exact ⟨_, rfl, law_post (args := #[.int .u16 x0]) laidOut hW' rfl hA0 types_ok (by rfl) Tryd.underlying4 (by rfl) (by rfl) (by rfl) hb⟩

/-- A world for the witness: the settled one, the listed variables holding what their initialisers lay. -/
noncomputable def laidWorld (os : Os) : World :=
  { World.holding Tryd.prog os ⟨#[], #[], []⟩ with heap := (World.holding Tryd.prog os ⟨#[], #[], []⟩).heap.modify 0 fun
      | .cells _ t frozen => .cells #[.int .i64 0, .int .i64 31, .int .i64 59, .int .i64 90, .int .i64 120, .int .i64 151, .int .i64 181, .int .i64 212, .int .i64 243, .int .i64 273, .int .i64 304, .int .i64 334, .int .i64 365] t frozen
      | o => o }
theorem laid_met (os : Os) : laidMet Tryd.prog Rows.dateYearsRow.laid ((laidWorld os).forCall (fun _ _ => 0) ⟨#[], #[.int .u16 0], []⟩).memory :=
  laidMet_of_run' 8 (by kernel_rfl) (by kernel_rfl)
theorem reads (os : Os) {H : Type} (enc : TypeId × Value → H) : ∃ places, DataW.whole enc Tryd.prog ((laidWorld os).forCall (fun _ _ => 0) ⟨#[], #[.int .u16 0], []⟩).memory Tryd.f4.params.toList Rows.dateYearsSpec.vars false #[.int .u16 0].toList 8 = some ([.lit (.int .u16 0)], [], places) :=
  ⟨[], by kernel_rfl⟩

set_option maxRecDepth 100000 in
theorem lifted (os : Os) (started : os.Started) (H : Type) (enc : TypeId × Value → H) (F : Stop.Interp) :
    ReturnsInHanded {} Tryd.checked os 4 .any ((OpenSpec.ofChange Rows.dateYearsSpec).preRow enc Tryd.prog Tryd.f4 Rows.dateYearsRow.domain false Rows.dateYearsRow.laid) (((OpenSpec.ofChange Rows.dateYearsSpec).at F).post enc Tryd.prog Tryd.f4 false true false false) := by
  obtain ⟨places, hx⟩ := reads os enc
  refine returnsInHanded_of_row (C := Tryd.checked) (s := OpenSpec.ofChange Rows.dateYearsSpec) own started (by kernel_rfl) Tryd.func4
    (witness_row_at (enc := enc) (C := Tryd.checked) false (laidWorld os) #[.int .u16 0] rfl (by kernel_rfl) (by kernel_rfl) (by kernel_rfl)
      (OpenSpec.preRow_of_cond 8 hx (by kernel_rfl) (fun k hk => by cases hk) (by kernel_rfl) (laid_met os))) ?_
  intro W base args ds gs before hval hW _ _ _ hL _ _
  exact contract H enc W base args ds gs before hval hW hL

theorem said : Rows.DateYearsSaid :=
  OpenClaim.holds_of_cond 4 Tryd.f4 rfl rfl rfl rfl rfl rfl rfl ⟨rfl, rfl, rfl, rfl, rfl⟩ rfl rfl rfl rfl rfl (by kernel_rfl) Tryd.func4 (by kernel_rfl)
    (of_decide_eq_true (by kernel_rfl)) (by unfold Func.isWrapper; first | (rw [if_pos (by decide +kernel)]; kernel_rfl) | (rw [if_neg (by decide +kernel)]; exact ⟨rfl, rfl⟩))
    (fun os started H enc _ F => by rw [OpenClaim.pre_eq_preRow]; exact lifted os started H enc F)

theorem plain (f : FuncId) (fn : Func) (hf : Tryd.pinned.checked.prog.funcNamed "estoppel/estoppellaw02.DateYears" = some f) (hfn : Tryd.pinned.checked.prog.funcs[f]? = some fn) :
    false = Tryd.pinned.checked.prog.looks [] ∧ ∀ (j : Nat) t, fn.params[j]? = some t → Tryd.pinned.checked.prog.wantsStandIn t = false := by
  obtain rfl : f = 4 := Option.some.inj ((show Tryd.prog.funcNamed "estoppel/estoppellaw02.DateYears" = some 4 by kernel_rfl).symm.trans hf) |>.symm
  obtain rfl : fn = Tryd.f4 := (Option.some.inj (Tryd.func4.symm.trans hfn)).symm
  refine ⟨by kernel_rfl, fun j t ht => ?_⟩
  rw [Tryd.params4] at ht
  have hm := Array.mem_of_getElem? ht
  simp only [List.mem_toArray, List.mem_cons, List.not_mem_nil, or_false] at hm
  subst hm
  exact (show Tryd.prog.wantsStandIn 32 = false by kernel_rfl)

/-- The card. -/
theorem card : Rows.DateYearsCardSaid :=
  Claim7.holds_tied_plain_at .later [] _ _ _ _ said (fun _ h => by cases h) (by kernel_rfl) (fun _ h => by cases h) dateYears_row_tie rfl ⟨rfl, rfl⟩ (by kernel_rfl) rfl plain (by kernel_rfl)
end Go.Proofs.YthnjbcdfcpchnaaDoor.dateYears
