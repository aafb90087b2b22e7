/- DateCount returns true: counts of adjacent ranges add up, a count is at most the number of days, 0 from a day to its next business day, and a range of one day counts 1 exactly if it is a business day. The law's table of days is tied to the program's text. -/
import Derived.Test.YthnjbcdfcpchnaaDoorDateCoW
import Derived.Test.YthnjbcdfcpchnaaDoorDatePl
import Derived.Test.YthnjbcdfcpchnaaDoorOpen
import Derived.Test.YthnjbcdfcpchnaaDoorFrame
namespace Go.Proofs.YthnjbcdfcpchnaaDoor.dateCount
open Go.ChangeShapes Go.WideShapes Go.ChangeAt Go.RowKit Go.Shelf

theorem walk (wk : Nat → Bool) (A : Option Addr) (hs : List Int) (c : Nat) (day f1 f2 : Int) (w : World) (hl : hs.length ≤ 9223372036854775807) (l0 : 0 ≤ f1) (l1 : f1 ≤ 65535) (l2 : 0 ≤ f2) (l3 : f2 ≤ 65535) (ht : Table w) (hh : Ints w A hs) :
    Calls Tryd.prog 8 #[.agg (cal wk A hs.length c), .int .i64 day, .int .u16 f1, .int .u16 f2] w fun e w' => e = .returned (.bool true) ∧ Below w.heap.size w w' := by
  by_cases cc : Biz.valid wk hs = true ∧ 0 ≤ day ∧ day ≤ 73048
  · obtain ⟨hv, h0, h1⟩ := cc
    obtain ⟨hi, h400⟩ := Biz.valid_parts hv
    have hf : decide (hs.length ≤ 500) = true := decide_eq_true (by omega)
    by_cases hend : day + f1 % 500 + f2 % 500 ≤ 73048
    · obtain ⟨p1, p2⟩ := cnt_is hv (a := day) (b := day + f1 % 500) h0 (by omega) (by omega)
      obtain ⟨p3, p4⟩ := cnt_is hv (a := day + f1 % 500) (b := day + f1 % 500 + f2 % 500) (by omega) (by omega) hend
      obtain ⟨p5, p6⟩ := cnt_is hv (a := day) (b := day + f1 % 500 + f2 % 500) h0 (by omega) hend
      have a1 := Biz.A_le (wk := wk) hi (a := day) (b := day + f1 % 500) h0 (by omega)
      have a2 := Biz.A_le (wk := wk) hi (a := day + f1 % 500) (b := day + f1 % 500 + f2 % 500) (by omega) (by omega)
      have hst := Biz.A_step (wk := wk) hi day h0
      have hbz := bizF_is (wk := wk) (hs := hs) hv h0 h1
      by_cases hn : nextE wk hs day = 0
      · obtain ⟨_, _, _, k1, k2, k3, _, _⟩ := nextE_zero hn
        obtain ⟨q1, q2⟩ := cnt_is hv (a := day) (b := nextV wk hs day) h0 k1 k2
        by_cases hm : day < 73048
        · obtain ⟨r1, r2⟩ := cnt_is hv (a := day) (b := day + 1) h0 (by omega) (by omega)
          cases hb : Biz.biz wk hs day
          · rw [hb] at hst hbz; simp at hst
            exact walk_h0_false wk A hs c day f1 f2 _ _ _ _ w hl ht hh l0 l1 l2 l3 ⟨p1, p2⟩ ⟨p3, p4⟩ ⟨p5, p6⟩ hf h0 h1 (by omega) (by omega) (by omega) (by omega) (by omega) (by omega) (by omega) ⟨rfl, hn⟩ ⟨by rw [q1]; omega, q2⟩ hm ⟨by rw [r1]; omega, r2⟩ hbz
          · rw [hb] at hst hbz; simp at hst
            exact walk_h0_true wk A hs c day f1 f2 _ _ _ _ w hl ht hh l0 l1 l2 l3 ⟨p1, p2⟩ ⟨p3, p4⟩ ⟨p5, p6⟩ hf h0 h1 (by omega) (by omega) (by omega) (by omega) (by omega) (by omega) (by omega) ⟨rfl, hn⟩ ⟨by rw [q1]; omega, q2⟩ hm ⟨by rw [r1]; omega, r2⟩ hbz
        · exact walk_h0_max wk A hs c day f1 f2 _ _ _ _ w hl ht hh l0 l1 l2 l3 ⟨p1, p2⟩ ⟨p3, p4⟩ ⟨p5, p6⟩ hf h0 h1 (by omega) (by omega) (by omega) (by omega) (by omega) (by omega) (by omega) ⟨rfl, hn⟩ ⟨by rw [q1]; omega, q2⟩ (by omega)
      · by_cases hm : day < 73048
        · obtain ⟨r1, r2⟩ := cnt_is hv (a := day) (b := day + 1) h0 (by omega) (by omega)
          cases hb : Biz.biz wk hs day
          · rw [hb] at hst hbz; simp at hst
            exact walk_h1_false wk A hs c day f1 f2 _ _ _ _ _ w hl ht hh l0 l1 l2 l3 ⟨p1, p2⟩ ⟨p3, p4⟩ ⟨p5, p6⟩ hf h0 h1 (by omega) (by omega) (by omega) (by omega) (by omega) (by omega) (by omega) ⟨rfl, rfl⟩ hn hm ⟨by rw [r1]; omega, r2⟩ hbz
          · rw [hb] at hst hbz; simp at hst
            exact walk_h1_true wk A hs c day f1 f2 _ _ _ _ _ w hl ht hh l0 l1 l2 l3 ⟨p1, p2⟩ ⟨p3, p4⟩ ⟨p5, p6⟩ hf h0 h1 (by omega) (by omega) (by omega) (by omega) (by omega) (by omega) (by omega) ⟨rfl, rfl⟩ hn hm ⟨by rw [r1]; omega, r2⟩ hbz
        · exact walk_h1_max wk A hs c day f1 f2 _ _ _ _ _ w hl ht hh l0 l1 l2 l3 ⟨p1, p2⟩ ⟨p3, p4⟩ ⟨p5, p6⟩ hf h0 h1 (by omega) (by omega) (by omega) (by omega) (by omega) (by omega) (by omega) ⟨rfl, rfl⟩ hn (by omega)
    · obtain ⟨p5, p6⟩ := cnt_isnt (wk := wk) (hs := hs) (a := day) (b := day + f1 % 500 + f2 % 500) (fun k => hend k.2.2.2)
      exact walk_far wk A hs c day f1 f2 _ _ _ _ w hl ht hh l0 l1 l2 l3 ⟨rfl, rfl⟩ ⟨rfl, rfl⟩ ⟨p5, p6⟩ hf h0 h1
  · have hn : ∀ b, ¬ (Biz.valid wk hs = true ∧ 0 ≤ day ∧ day ≤ b ∧ b ≤ 73048) := fun b k => cc ⟨k.1, k.2.1, by omega⟩
    cases hf : decide (hs.length ≤ 500)
    · exact walk_bad_false wk A hs c day f1 f2 w hl ht hh l0 l1 l2 l3 hf (fun b => (cnt_isnt (hn b)).1) (fun b => (cnt_isnt (hn b)).2)
    · exact walk_bad_true wk A hs c day f1 f2 w hl ht hh l0 l1 l2 l3 hf (fun b => (cnt_isnt (hn b)).1) (fun b => (cnt_isnt (hn b)).2)

theorem own : ownKnob Tryd.prog.godebug = none := by kernel_rfl
theorem laidOut : laidOutB Tryd.prog = true := by kernel_rfl
theorem types_ok : ∀ t ∈ Tryd.f8.params.toList, Tryd.prog.readableRec t = true ∧ t < Tryd.prog.types.size := by
  rw [Tryd.params8]
  intro t ht
  simp only [List.mem_cons, List.not_mem_nil, or_false] at ht
  rcases ht with rfl | rfl | rfl | rfl
  · exact ⟨(show Tryd.prog.readableRec 39 = true by kernel_rfl), of_decide_eq_true (by kernel_rfl)⟩
  · exact ⟨(show Tryd.prog.readableRec 3 = true by kernel_rfl), of_decide_eq_true (by kernel_rfl)⟩
  · exact ⟨(show Tryd.prog.readableRec 32 = true by kernel_rfl), of_decide_eq_true (by kernel_rfl)⟩
  · exact ⟨(show Tryd.prog.readableRec 32 = true by kernel_rfl), of_decide_eq_true (by kernel_rfl)⟩
theorem gTab : Tryd.prog.globalNamed "estoppel/date.before" = some 0 := by kernel_rfl
theorem gTabType : (Tryd.prog.globals[0]?).map (·.type) = some 52 := by kernel_rfl
theorem cellsA : Tryd.prog.cellsOf 52 = 13 := by kernel_rfl
theorem cells3 : Tryd.prog.cellsOf 3 = 1 := by kernel_rfl
theorem table {W : World} (h : laidMetH Tryd.prog Rows.dateCountRow.laid W) : Table W := by
  have ht : Lib.TabIs Tryd.prog W "estoppel/date.before" .i64 [0, 31, 59, 90, 120, 151, 181, 212, 243, 273, 304, 334, 365] := Lib.tabIs_of_head (rest := []) gTab gTabType Tryd.underlying52 Tryd.underlying3 cells3 cellsA h
  intro m hm
  have hc := ht.cell gTab m (by simp; omega)
  rw [hc]
  obtain rfl | rfl | rfl | rfl | rfl | rfl | rfl | rfl | rfl | rfl | rfl | rfl | rfl : m = 0 ∨ m = 1 ∨ m = 2 ∨ m = 3 ∨ m = 4 ∨ m = 5 ∨ m = 6 ∨ m = 7 ∨ m = 8 ∨ m = 9 ∨ m = 10 ∨ m = 11 ∨ m = 12 := by omega
  all_goals rfl

theorem seven {bl : List Bool} (h : bl.length = 7) : ∃ b0 b1 b2 b3 b4 b5 b6, bl = [b0, b1, b2, b3, b4, b5, b6] := by
  match bl, h with
  | [b0, b1, b2, b3, b4, b5, b6], _ => exact ⟨b0, b1, b2, b3, b4, b5, b6, rfl⟩

/-- What the walk gives, for every argument and every world that holds the table. -/
theorem contract (H : Type) (enc : TypeId × Value → H) (W : World) (base : Nat) (args : Array Value) (ds gs : List (DataW H)) (before : List MemPlace)
    (hval : ∀ (j : Nat) t v, Tryd.f8.params[j]? = some t → args[j]? = some v → Value.okWide Tryd.prog W .any base t v)
    (hW : DataW.Whole enc Tryd.prog Tryd.f8.params.toList Rows.dateCountSpec.vars false W args.toList ds gs before) (hL : laidMetH Tryd.prog Rows.dateCountRow.laid W) :
    Calls Tryd.prog 8 args W fun e W' => ∃ v, e = .returned v ∧ Rows.dateCountSpec.post enc Tryd.prog Tryd.f8 false true false false W args v W' := by
  have hW' := hW
  obtain ⟨p, q, hA0, hV, rfl, hfz, hnd⟩ := hW
  obtain ⟨rfl, rfl⟩ := trodVars_none hV
  have hA := hA0
  rw [Tryd.params8] at hA hval
  obtain ⟨v0, vs0, d0, ds0, p0, q0, hargs, rfl, rfl, h0, r0⟩ := trodAll_cons hA
  obtain ⟨v1, vs1, d1, ds1, p1, q1, rfl, rfl, rfl, h1, r1⟩ := trodAll_cons r0
  obtain ⟨v2, vs2, d2, ds2, p2, q2, rfl, rfl, rfl, h2, r2⟩ := trodAll_cons r1
  obtain ⟨v3, vs3, d3, ds3, p3, q3, rfl, rfl, rfl, h3, r3⟩ := trodAll_cons r2
  obtain ⟨rfl, rfl, rfl⟩ := trodAll_nil r3
  obtain rfl : args = #[v0, v1, v2, v3] := by cases args; simp_all
  have cal_opens := opens_struct Tryd.underlying39 (by kernel_rfl)
    (opensFrom_cons (k := 7) rfl (by kernel_rfl) (opens_bools Tryd.underlying36 Tryd.underlying4 (by kernel_rfl) (by kernel_rfl))
      (opensFrom_cons (k := 1) rfl (by kernel_rfl) (opens_slice Tryd.underlying37 (C := 1) (by kernel_rfl) (by decide) (fun _ => rfl) (opens_i64 Tryd.underlying3)) opensFrom_nil))
  obtain ⟨⟨bl, s, _⟩, rfl, hbl, ⟨hrow, hlc, hcap, _⟩, _⟩ := open_agg Tryd.underlying39 cal_opens (hval 0 39 v0 rfl rfl) h0
  obtain ⟨b0, b1, b2, b3, b4, b5, b6, rfl⟩ := seven hbl
  have hints : Ints W s.A s.l := by unfold Ints; rw [List.map_eq_flatMap]; exact hrow
  obtain ⟨x1, rfl, rfl, rfl, wx1⟩ := open_int Tryd.underlying3 (hval 1 3 v1 rfl rfl) h1
  obtain ⟨x2, rfl, rfl, rfl, wx2⟩ := open_int Tryd.underlying32 (hval 2 32 v2 rfl rfl) h2
  have bd2 := bounds_u16 wx2
  obtain ⟨x3, rfl, rfl, rfl, wx3⟩ := open_int Tryd.underlying32 (hval 3 32 v3 rfl rfl) h3
  have bd3 := bounds_u16 wx3
  simp only [List.append_nil] at hW' hA0 ⊢
  refine (walk (fun i => [b0, b1, b2, b3, b4, b5, b6].getD i false) s.A s.l s.cap x1 x2 x3 W (Nat.le_trans hlc hcap) bd2.1 bd2.2 bd3.1 bd3.2 (table hL) hints).mono fun e W' ⟨he, hb⟩ => ?_
  subst he
  exact ⟨_, rfl, law_post (args := #[.agg (cal (fun i => [b0, b1, b2, b3, b4, b5, b6].getD i false) s.A s.l.length s.cap), .int .i64 x1, .int .u16 x2, .int .u16 x3]) laidOut hW' rfl hA0 types_ok (by rfl) Tryd.underlying4 (by rfl) (by rfl) (by rfl) hb⟩

/-- A world for the witness: the settled one, the listed variables holding what their initialisers lay. -/
noncomputable def laidWorld (os : Os) : World :=
  { World.holding Tryd.prog os ⟨#[], #[], []⟩ with heap := (World.holding Tryd.prog os ⟨#[], #[], []⟩).heap.modify 0 fun
      | .cells _ t frozen => .cells #[.int .i64 0, .int .i64 31, .int .i64 59, .int .i64 90, .int .i64 120, .int .i64 151, .int .i64 181, .int .i64 212, .int .i64 243, .int .i64 273, .int .i64 304, .int .i64 334, .int .i64 365] t frozen
      | o => o }
theorem laid_met (os : Os) : laidMet Tryd.prog Rows.dateCountRow.laid ((laidWorld os).forCall (fun _ _ => 0) ⟨#[], #[.agg #[.bool false, .bool false, .bool false, .bool false, .bool false, .bool false, .bool false, .slice none 0 0], .int .i64 0, .int .u16 0, .int .u16 0], []⟩).memory :=
  laidMet_of_run' 8 (by kernel_rfl) (by kernel_rfl)
theorem reads (os : Os) {H : Type} (enc : TypeId × Value → H) : ∃ places, DataW.whole enc Tryd.prog ((laidWorld os).forCall (fun _ _ => 0) ⟨#[], #[.agg #[.bool false, .bool false, .bool false, .bool false, .bool false, .bool false, .bool false, .slice none 0 0], .int .i64 0, .int .u16 0, .int .u16 0], []⟩).memory Tryd.f8.params.toList Rows.dateCountSpec.vars false #[.agg #[.bool false, .bool false, .bool false, .bool false, .bool false, .bool false, .bool false, .slice none 0 0], .int .i64 0, .int .u16 0, .int .u16 0].toList 8 = some ([.agg [.agg [.lit (.bool false), .lit (.bool false), .lit (.bool false), .lit (.bool false), .lit (.bool false), .lit (.bool false), .lit (.bool false)], .nil], .lit (.int .i64 0), .lit (.int .u16 0), .lit (.int .u16 0)], [], places) :=
  ⟨[], by kernel_rfl⟩

set_option maxRecDepth 100000 in
theorem lifted (os : Os) (started : os.Started) (H : Type) (enc : TypeId × Value → H) (F : Stop.Interp) :
    ReturnsInHanded {} Tryd.checked os 8 .any ((OpenSpec.ofChange Rows.dateCountSpec).preRow enc Tryd.prog Tryd.f8 Rows.dateCountRow.domain false Rows.dateCountRow.laid) (((OpenSpec.ofChange Rows.dateCountSpec).at F).post enc Tryd.prog Tryd.f8 false true false false) := by
  obtain ⟨places, hx⟩ := reads os enc
  refine returnsInHanded_of_row (C := Tryd.checked) (s := OpenSpec.ofChange Rows.dateCountSpec) own started (by kernel_rfl) Tryd.func8
    (witness_row_at (enc := enc) (C := Tryd.checked) false (laidWorld os) #[.agg #[.bool false, .bool false, .bool false, .bool false, .bool false, .bool false, .bool false, .slice none 0 0], .int .i64 0, .int .u16 0, .int .u16 0] rfl (by kernel_rfl) (by kernel_rfl) (by kernel_rfl)
      (OpenSpec.preRow_of_cond 8 hx (by kernel_rfl) (fun k hk => by cases hk) (by kernel_rfl) (laid_met os))) ?_
  intro W base args ds gs before hval hW _ _ _ hL _ _
  exact contract H enc W base args ds gs before hval hW hL

theorem said : Rows.DateCountSaid :=
  OpenClaim.holds_of_cond 8 Tryd.f8 rfl rfl rfl rfl rfl rfl rfl ⟨rfl, rfl, rfl, rfl, rfl⟩ rfl rfl rfl rfl rfl (by kernel_rfl) Tryd.func8 (by kernel_rfl)
    (of_decide_eq_true (by kernel_rfl)) (by unfold Func.isWrapper; first | (rw [if_pos (by decide +kernel)]; kernel_rfl) | (rw [if_neg (by decide +kernel)]; exact ⟨rfl, rfl⟩))
    (fun os started H enc _ F => by rw [OpenClaim.pre_eq_preRow]; exact lifted os started H enc F)

theorem plain (f : FuncId) (fn : Func) (hf : Tryd.pinned.checked.prog.funcNamed "estoppel/estoppellaw02.DateCount" = some f) (hfn : Tryd.pinned.checked.prog.funcs[f]? = some fn) :
    false = Tryd.pinned.checked.prog.looks [] ∧ ∀ (j : Nat) t, fn.params[j]? = some t → Tryd.pinned.checked.prog.wantsStandIn t = false := by
  obtain rfl : f = 8 := Option.some.inj ((show Tryd.prog.funcNamed "estoppel/estoppellaw02.DateCount" = some 8 by kernel_rfl).symm.trans hf) |>.symm
  obtain rfl : fn = Tryd.f8 := (Option.some.inj (Tryd.func8.symm.trans hfn)).symm
  refine ⟨by kernel_rfl, fun j t ht => ?_⟩
  rw [Tryd.params8] at ht
  have hm := Array.mem_of_getElem? ht
  simp only [List.mem_toArray, List.mem_cons, List.not_mem_nil, or_false] at hm
  rcases hm with rfl | rfl | rfl | rfl
  · exact (show Tryd.prog.wantsStandIn 39 = false by kernel_rfl)
  · exact (show Tryd.prog.wantsStandIn 3 = false by kernel_rfl)
  · exact (show Tryd.prog.wantsStandIn 32 = false by kernel_rfl)
  · exact (show Tryd.prog.wantsStandIn 32 = false by kernel_rfl)

/-- The card. -/
theorem card : Rows.DateCountCardSaid :=
  Claim7.holds_tied_plain_at .later [] _ _ _ _ said (fun _ h => by cases h) (by kernel_rfl) (fun _ h => by cases h) dateCount_row_tie rfl ⟨rfl, rfl⟩ (by kernel_rfl) rfl plain (by kernel_rfl)
end Go.Proofs.YthnjbcdfcpchnaaDoor.dateCount
