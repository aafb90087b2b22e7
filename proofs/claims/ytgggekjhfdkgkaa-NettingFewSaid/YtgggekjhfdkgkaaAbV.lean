/- The contracts of netting and ratio, as abstract ones. -/
import Derived.Test.YtgggekjhfdkgkaaAbU
import Derived.Test.YtgggekjhfdkgkaaNetN
namespace Go.Proofs.Ytgggekjhfdkgkaa.Ab
open Go Go.RowKit Go.Shelf

theorem spec_calls {P : Program} {f : FuncId} {args : List AV} {nx : Nat} {r : AV} (he : Enters P f) (h : ∀ (w : World) (S : Nat → Prop) (m : Nat → Nat × Nat) (vs : Array Value), (∀ i, S i → i < w.heap.size) → RepA w S m nx args vs →
    Calls P f vs w fun e w' => ∃ v, e = .returned v ∧ Below w.heap.size w w' ∧ Rep w' S m 0 r v) : Spec P f args [] nx r [] nx :=
  ⟨he, fun w S m vs hm hr => (h w S m vs hm.lt hr).mono fun e w' ⟨v, h1, h2, h3⟩ => ⟨v, S, m, h1, hm.below h2, h3.up (Nat.zero_le _)⟩⟩
theorem repA2 {w : World} {S : Nat → Prop} {m : Nat → Nat × Nat} {nx : Nat} {x y : AV} {vs : Array Value} (h : RepA w S m nx [x, y] vs) : ∃ u v, vs = #[u, v] ∧ Rep w S m nx x u ∧ Rep w S m nx y v := by
  obtain ⟨hl, hr⟩ := h
  obtain ⟨l⟩ := vs
  match l, hl with
  | [u, v], _ => exact ⟨u, v, rfl, hr 0 x u rfl rfl, hr 1 y v rfl rfl⟩
theorem repA1 {w : World} {S : Nat → Prop} {m : Nat → Nat × Nat} {nx : Nat} {x : AV} {vs : Array Value} (h : RepA w S m nx [x] vs) : ∃ u, vs = #[u] ∧ Rep w S m nx x u := by
  obtain ⟨hl, hr⟩ := h
  obtain ⟨l⟩ := vs
  match l, hl with
  | [u], _ => exact ⟨u, rfl, hr 0 x u rfl rfl⟩
theorem rep_agg_mk {w : World} {S : Nat → Prop} {m : Nat → Nat × Nat} {nx : Nat} (l : List Value) : Rep w S m nx (.agg (l.map .s)) (.agg l.toArray) := .agg _ (by simp) (repA_s l).2
theorem rep_tup2 {w : World} {S : Nat → Prop} {m : Nat → Nat × Nat} {nx : Nat} {x y : AV} {u v : Value} (h1 : Rep w S m nx x u) (h2 : Rep w S m nx y v) : Rep w S m nx (.tup [x, y]) (.tuple #[u, v]) :=
  .tup _ rfl (fun j a b ha hb => by
    match j with
    | 0 => simp at ha hb; subst ha; subst hb; exact h1
    | 1 => simp at ha hb; subst ha; subst hb; exact h2
    | j + 2 => simp at ha)
/-- A slice of structs of numbers, read. -/
theorem rep_rows {α : Type} (cells : α → List Value) (C : Nat) (hC : ∀ x, (cells x).length = C) (hC0 : 0 < C) {w : World} {S : Nat → Prop} {m : Nat → Nat × Nat} {nx : Nat} {l : List α} {v : Value} (h : Rep w S m nx (.sl C (l.map fun x => (cells x).map AV.s)) v) :
    ∃ A c, v = .slice A l.length c ∧ Row w A (l.flatMap cells) := by
  generalize hes : (l.map fun x => (cells x).map AV.s) = es at h
  cases h with
  | sl0 a cap =>
    have : l = [] := by simpa using hes
    subst this
    exact ⟨a, cap, rfl, Row.nil _ _⟩
  | sl g off cap val hg hS hz hc ho hr =>
    subst hes
    refine ⟨some ⟨g, off, none⟩, cap, by simp, fun _ => ⟨g, off, rfl, fun j v hv => ?_⟩⟩
    have h1 := flatMap_at hC l (j / C) (j % C) (Nat.mod_lt _ hC0)
    have h2 : j / C * C + j % C = j := by have := Nat.div_add_mod j C; rw [Nat.mul_comm] at this; exact this
    rw [h2, hv] at h1
    obtain ⟨x, hx, hxc⟩ := bind_some' h1.symm
    have e1 : (l.map fun x => (cells x).map AV.s)[j / C]? = some ((cells x).map AV.s) := by simp [hx]
    have e2 : ((cells x).map AV.s)[j % C]? = some (.s v) := by simp [hxc]
    have h3 := hc _ _ _ _ e1 e2
    have h4 := rep_s (hr _ _ _ _ e1 e2)
    rw [h4, show off + j / C * C + j % C = off + j by omega] at h3
    exact h3
/-- A slice of structs of numbers, made. -/
theorem rep_rows_mk {α : Type} (cells : α → List Value) (C : Nat) (hC : ∀ x, (cells x).length = C) (hC0 : 0 < C) (h1 : ∀ x, ∀ v ∈ cells x, v.oneCell' = true) {w : World} {S : Nat → Prop} {m : Nat → Nat × Nat} {nx : Nat} {l : List α} {A : Option Addr} {c : Nat} (h : Row w A (l.flatMap cells)) (hS : ∀ a, A = some a → ¬ S a.block) :
    Rep w S m nx (.sl C (l.map fun x => (cells x).map AV.s)) (.slice A l.length c) := by
  cases l with
  | nil => exact .sl0 A c
  | cons x0 l =>
    have hne : (x0 :: l).flatMap cells ≠ [] := by
      intro e
      have := congrArg List.length e
      rw [flatMap_length hC] at this
      have hp : 0 < (x0 :: l).length * C := Nat.mul_pos (by simp) hC0
      simp only [List.length_nil] at this; omega
    obtain ⟨g, off, rfl, hc⟩ := h hne
    have hlen : ((x0 :: l).map fun x => (cells x).map AV.s).length = (x0 :: l).length := by simp
    rw [← hlen]
    have hcell : ∀ (i : Nat) (e : List AV) (j : Nat) (a : AV), ((x0 :: l).map fun x => (cells x).map AV.s)[i]? = some e → e[j]? = some a → ∃ x v, (x0 :: l)[i]? = some x ∧ (cells x)[j]? = some v ∧ a = .s v ∧ ((x0 :: l).flatMap cells)[i * C + j]? = some v := fun i e j a he ha => by
      rw [List.getElem?_map] at he
      obtain ⟨x, hx, rfl⟩ := map_some' he
      rw [List.getElem?_map] at ha
      obtain ⟨v, hv, rfl⟩ := map_some' ha
      have hj : j < C := by rw [← hC x]; exact (List.getElem?_eq_some_iff.1 hv).1
      refine ⟨x, v, hx, hv, rfl, ?_⟩
      rw [flatMap_at hC _ i j hj, hx]; exact hv
    refine .sl g off c (fun i j => (((x0 :: l).flatMap cells)[i * C + j]?).getD undef) ?_ (hS _ rfl) (fun e he => ?_) (fun i e j a he ha => ?_) (fun i e j a he ha => ?_) (fun i e j a he ha => ?_)
    · obtain ⟨v, hv⟩ : ∃ v, ((x0 :: l).flatMap cells)[0]? = some v := by
        cases hh : (x0 :: l).flatMap cells with
        | nil => exact absurd hh hne
        | cons v _ => exact ⟨v, rfl⟩
      exact World.block_lt_of_cell? w _ (hc 0 v hv)
    · obtain ⟨x, _, rfl⟩ := List.mem_map.1 he
      simp [hC x]
    · obtain ⟨x, v, _, _, _, h5⟩ := hcell i e j a he ha
      rw [h5, Nat.add_assoc]; exact hc _ _ h5
    · obtain ⟨x, v, _, h3, _, h5⟩ := hcell i e j a he ha
      rw [h5]; exact h1 x v (List.mem_of_getElem? h3)
    · obtain ⟨x, v, _, _, h4, h5⟩ := hcell i e j a he ha
      rw [h5, h4]; exact .s v
theorem rep_dsl {w : World} {S : Nat → Prop} {m : Nat → Nat × Nat} {nx : Nat} {l : List Nt.Debt} {v : Value} (h : Rep w S m nx (dsl l) v) : ∃ A c, v = .slice A l.length c ∧ Debts w A l :=
  rep_rows dcells 4 (fun _ => rfl) (by decide) h
theorem rep_dsl_mk {w : World} {S : Nat → Prop} {m : Nat → Nat × Nat} {nx : Nat} {l : List Nt.Debt} {A : Option Addr} {c : Nat} (h : Debts w A l) (hS : ∀ a, A = some a → ¬ S a.block) : Rep w S m nx (dsl l) (.slice A l.length c) :=
  rep_rows_mk dcells 4 (fun _ => rfl) (by decide) (fun x v hv => by simp at hv; rcases hv with rfl | rfl | rfl | rfl <;> rfl) h hS
/-- The debts' numbers are int's. -/
def i64s (l : List Nt.Debt) : Prop := ∀ x ∈ l, -9223372036854775808 ≤ x.n ∧ x.n ≤ 9223372036854775807
/-- What Net, Pairs and Positions answer. -/
def resD (v : Bool) (o : Option (List Nt.Debt)) : AV := if v = true then (match o with
  | some l => .tup [dsl l, .int 0]
  | none => .tup [.s (.slice none 0 0), .int 2]) else .tup [.s (.slice none 0 0), .int 1]
def resP (v : Bool) (o : Option (List Rat)) : AV := if v = true then (match o with
  | some l => .tup [rsl l, .int 0]
  | none => .tup [.s (.slice none 0 0), .int 2]) else .tup [.s (.slice none 0 0), .int 1]
theorem net_spec (m : Int) (l : List Nt.Debt) (nx : Nat) (hl : l.length ≤ 1000000) (hn : i64s l) :
    Spec Try.prog 14 [.int m, dsl l] [] nx (resD (Nt.valid m l) (Nt.netO l m.toNat)) [] nx := by
  refine spec_calls (enters_of Try.func14 (by kernel_rfl) rfl) fun w S mm vs hlt hr => ?_
  obtain ⟨u, v, rfl, hu, hv⟩ := repA2 hr
  have := rep_s hu; subst this
  obtain ⟨A, c, rfl, hD⟩ := rep_dsl hv
  cases hvl : Nt.valid m l with
  | false => exact (net_no m A l c w hl hn hD hvl).mono fun e w' ⟨h1, h2⟩ => ⟨_, h1, h2, rep_tup2 (.s _) (.s _)⟩
  | true =>
    have hm : m = (m.toNat : Int) := by have := (Nt.valid_iff.1 hvl).1; omega
    have hvl' : Nt.valid (m.toNat : Int) l = true := by rw [← hm]; exact hvl
    have := net_ok m.toNat A l c w hl hn hD hvl'
    rw [← hm] at this
    refine this.mono fun e w' ⟨h1, h2⟩ => ?_
    rcases h1 with ⟨h3, h4⟩ | ⟨out, A', c', h3, h4, h5, h6⟩
    · exact ⟨_, h4, h2, by rw [h3]; exact rep_tup2 (.s _) (.s _)⟩
    · exact ⟨_, h4, h2, by rw [h3]; exact rep_tup2 (rep_dsl_mk h5 (fun a ha hS => by have := h6 a ha; have := hlt _ hS; omega)) (.s _)⟩
theorem pairs_spec (m : Int) (l : List Nt.Debt) (nx : Nat) (hl : l.length ≤ 1000000) (hn : i64s l) :
    Spec Try.prog 12 [.int m, dsl l] [] nx (resD (Nt.valid m l) (Nt.pairsO l m.toNat)) [] nx := by
  refine spec_calls (enters_of Try.func12 (by kernel_rfl) rfl) fun w S mm vs hlt hr => ?_
  obtain ⟨u, v, rfl, hu, hv⟩ := repA2 hr
  have := rep_s hu; subst this
  obtain ⟨A, c, rfl, hD⟩ := rep_dsl hv
  cases hvl : Nt.valid m l with
  | false => exact (pairs_no m A l c w hl hn hD hvl).mono fun e w' ⟨h1, h2⟩ => ⟨_, h1, h2, rep_tup2 (.s _) (.s _)⟩
  | true =>
    have hm : m = (m.toNat : Int) := by have := (Nt.valid_iff.1 hvl).1; omega
    have hvl' : Nt.valid (m.toNat : Int) l = true := by rw [← hm]; exact hvl
    have := pairs_ok m.toNat A l c w hl hn hD hvl'
    rw [← hm] at this
    refine this.mono fun e w' ⟨h1, h2⟩ => ?_
    rcases h1 with ⟨h3, h4⟩ | ⟨out, A', c', h3, h4, h5, h6⟩
    · exact ⟨_, h4, h2, by rw [h3]; exact rep_tup2 (.s _) (.s _)⟩
    · exact ⟨_, h4, h2, by rw [h3]; exact rep_tup2 (rep_dsl_mk h5 (fun a ha hS => by have := h6 a ha; have := hlt _ hS; omega)) (.s _)⟩
theorem valid_spec (m : Int) (l : List Nt.Debt) (nx : Nat) (hl : l.length ≤ 1000000) (hn : i64s l) :
    Spec Try.prog 16 [.int m, dsl l] [] nx (.bool (Nt.valid m l)) [] nx := by
  refine spec_calls (enters_of Try.func16 (by kernel_rfl) rfl) fun w S mm vs hlt hr => ?_
  obtain ⟨u, v, rfl, hu, hv⟩ := repA2 hr
  have := rep_s hu; subst this
  obtain ⟨A, c, rfl, hD⟩ := rep_dsl hv
  exact (valid_any m A l c _ w hl hn hD (Lib.hid rfl)).mono fun e w' ⟨h1, h2⟩ => ⟨_, h1, h2, .s _⟩
theorem own2_row {w : World} {B : Nat} {ps : List Rat} (h : Own2 w B (ps.map pr)) : Row w (some ⟨B, 0, none⟩) (ps.flatMap fun r => [Value.int .i64 r.num, Value.int .i64 r.den]) := fun _ => ⟨B, 0, rfl, fun j v hv => by
  have h1 := flatMap_at (cells := fun r : Rat => [Value.int .i64 r.num, Value.int .i64 r.den]) (C := 2) (fun _ => rfl) ps (j / 2) (j % 2) (Nat.mod_lt _ (by decide))
  rw [show j / 2 * 2 + j % 2 = j by omega, hv] at h1
  obtain ⟨x, hx, hxc⟩ := bind_some' h1.symm
  have hlt : j / 2 < (ps.map pr).length := by rw [List.length_map]; exact (List.getElem?_eq_some_iff.1 hx).1
  obtain ⟨c0, c1, _, _⟩ := h (j / 2) hlt
  have hg : (ps.map pr)[j / 2] = pr x := by
    have : (ps.map pr)[j / 2]? = some (pr x) := by simp [hx]
    exact (List.getElem?_eq_some_iff.1 this).2
  rw [hg] at c0 c1
  rw [Nat.zero_add]
  rcases (by omega : j % 2 = 0 ∨ j % 2 = 1) with e | e
  · rw [e] at hxc; simp at hxc; subst hxc
    rw [show j = j / 2 * 2 by omega]; exact c0
  · rw [e] at hxc; simp at hxc; subst hxc
    rw [show j = j / 2 * 2 + 1 by omega]; exact c1⟩
theorem positions_spec (m : Int) (l : List Nt.Debt) (nx : Nat) (hl : l.length ≤ 1000000) (hn : i64s l) :
    Spec Try.prog 10 [.int m, dsl l] [] nx (resP (Nt.valid m l) (Nt.posL l m.toNat)) [] nx := by
  refine spec_calls (enters_of Try.func10 (by kernel_rfl) rfl) fun w S mm vs hlt hr => ?_
  obtain ⟨u, v, rfl, hu, hv⟩ := repA2 hr
  have := rep_s hu; subst this
  obtain ⟨A, c, rfl, hD⟩ := rep_dsl hv
  cases hvl : Nt.valid m l with
  | false => exact (positions_no m A l c w hl hn hD hvl).mono fun e w' ⟨h1, h2⟩ => ⟨_, h1, h2, rep_tup2 (.s _) (.s _)⟩
  | true =>
    have hm : m = (m.toNat : Int) := by have := (Nt.valid_iff.1 hvl).1; omega
    have hvl' : Nt.valid (m.toNat : Int) l = true := by rw [← hm]; exact hvl
    have := positions_ok m.toNat A l c w hl hn hD hvl'
    rw [← hm] at this
    refine this.mono fun e w' ⟨h1, h2⟩ => ?_
    rcases h1 with ⟨h3, h4⟩ | ⟨ps, B, h3, h4, h5, h6, h7⟩
    · exact ⟨_, h4, h2, by rw [h3]; exact rep_tup2 (.s _) (.s _)⟩
    · refine ⟨_, h4, h2, ?_⟩
      rw [h3]
      have hlen := Nt.posL_len h3
      refine rep_tup2 ?_ (.s _)
      have := rep_rows_mk (fun r : Rat => [Value.int .i64 r.num, Value.int .i64 r.den]) 2 (fun _ => rfl) (by decide) (fun x v hv => by simp at hv; rcases hv with rfl | rfl <;> rfl) (S := S) (m := mm) (nx := 0) (c := m.toNat) (own2_row h7) (fun a ha hS => by injection ha with ha; subst ha; have := hlt _ hS; simp only at this; omega)
      rw [hlen] at this
      exact this
/-- What an operation on ratios answers. -/
def resR (x : Int × Int × Int) : AV := .tup [.agg [.int x.1, .int x.2.1], .int x.2.2]
theorem radd_spec (an ad bn bd : Int) (nx : Nat) (n1 : -9223372036854775808 ≤ an) (n2 : an ≤ 9223372036854775807) (m1 : -9223372036854775808 ≤ bn) (m2 : bn ≤ 9223372036854775807) :
    Spec Try.prog 20 [.agg [.int an, .int ad], .agg [.int bn, .int bd]] [] nx (resR (Rt.add an ad bn bd)) [] nx := by
  refine spec_calls (enters_of Try.func20 (by kernel_rfl) rfl) fun w S mm vs hlt hr => ?_
  obtain ⟨u, v, rfl, hu, hv⟩ := repA2 hr
  have := rep_agg [.int .i64 an, .int .i64 ad] hu; subst this
  have := rep_agg [.int .i64 bn, .int .i64 bd] hv; subst this
  exact (radd_any an ad bn bd w n1 n2 m1 m2).mono fun e w' ⟨h1, h2⟩ => ⟨_, h1, h2, rep_tup2 (rep_agg_mk [.int .i64 _, .int .i64 _]) (.s _)⟩
theorem rcmp_spec (an ad bn bd : Int) (nx : Nat) (n1 : -9223372036854775808 ≤ an) (n2 : an ≤ 9223372036854775807) (m1 : -9223372036854775808 ≤ bn) (m2 : bn ≤ 9223372036854775807) :
    Spec Try.prog 24 [.agg [.int an, .int ad], .agg [.int bn, .int bd]] [] nx (.int (Rt.cmp an ad bn bd)) [] nx := by
  refine spec_calls (enters_of Try.func24 (by kernel_rfl) rfl) fun w S mm vs hlt hr => ?_
  obtain ⟨u, v, rfl, hu, hv⟩ := repA2 hr
  have := rep_agg [.int .i64 an, .int .i64 ad] hu; subst this
  have := rep_agg [.int .i64 bn, .int .i64 bd] hv; subst this
  exact (rcmp_any an ad bn bd w n1 n2 m1 m2).mono fun e w' ⟨h1, h2⟩ => ⟨_, h1, h2, .s _⟩
end Go.Proofs.Ytgggekjhfdkgkaa.Ab
