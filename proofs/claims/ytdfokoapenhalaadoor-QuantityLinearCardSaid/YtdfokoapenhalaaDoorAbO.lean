/- Arguments opened by their types, as abstract values. -/
import Derived.Test.YtdfokoapenhalaaDoorAbX
import Derived.Test.YtdfokoapenhalaaDoorOpen
import Derived.Test.YtdfokoapenhalaaDoorFrameU
namespace Go.Proofs.YtdfokoapenhalaaDoor.Ab
open Go Go.RowKit Go.Shelf Go.ChangeShapes Go.WideShapes Go.ChangeAt Go.Deep
abbrev none_ : Nat → Prop := fun _ => False
abbrev m0_ : Nat → Nat × Nat := fun _ => (0, 0)
/-- Every reading of type t is that of some x, whose cells stand for what is read. -/
structure OpensA (P : Program) (t : TypeId) {α : Type} (c : α → List AV) (ok : α → Prop) : Prop where
  out : ∀ {H : Type} {enc : TypeId × Value → H} {w : World} {base : Nat} {spare : Nat → Bool} {held : Bool} {fuel : Nat} {cs : List Value} {y : DataW H × List MemPlace},
    DataW.trod enc P w base spare held fuel t cs = some y → ∃ x, RepA w none_ m0_ 0 (c x) cs.toArray ∧ ok x
section
variable {P : Program} {t : TypeId}
theorem repA1s {w : World} (v : Value) : RepA w none_ m0_ 0 [.s v] [v].toArray := ⟨rfl, fun j a b ha hb => by
  cases j with
  | zero => simp at ha hb; subst ha; subst hb; exact .s v
  | succ j => simp at ha⟩
theorem opA_int {k : IntKind} (ht : P.underlying t = some (.int k)) : OpensA P t (fun n : Int => [.s (.int k n)]) (fun n => (Lit.int k n).wf = true) := ⟨fun h => by
  obtain ⟨n, rfl, _, hw⟩ := DataW.trod_int ht h
  exact ⟨n, repA1s _, hw⟩⟩
theorem opA_i64 (ht : P.underlying t = some (.int .i64)) : OpensA P t cI (fun n => -9223372036854775808 ≤ n ∧ n ≤ 9223372036854775807) := ⟨fun h => by
  obtain ⟨n, rfl, _, hw⟩ := DataW.trod_int ht h
  exact ⟨n, repA1s _, bounds_i64 hw⟩⟩
theorem opA_bool (ht : P.underlying t = some .bool) : OpensA P t cB (fun _ => True) := ⟨fun h => by
  obtain ⟨b, rfl, _⟩ := DataW.trod_bool ht h
  exact ⟨b, repA1s _, trivial⟩⟩
theorem opA_string (ht : P.underlying t = some .string) : OpensA P t cS (fun s => s.size ≤ maxLen) := ⟨fun h => by
  obtain ⟨s, rfl, _, hs⟩ := DataW.trod_string ht h
  exact ⟨s, repA1s _, hs⟩⟩
/-- Fields laid one behind the other from an offset on. -/
structure OpensFromA (P : Program) (off : Nat) (fs : List Field) {α : Type} (c : α → List AV) (ok : α → Prop) : Prop where
  out : ∀ {H : Type} {enc : TypeId × Value → H} {w : World} {base : Nat} {spare : Nat → Bool} {held : Bool} {fuel : Nat} {cs : List Value},
    (∀ f ∈ fs, ∃ y, DataW.trod enc P w base spare held fuel f.type ((cs.drop f.offset).take (P.cellsOf f.type)) = some y) → cs.length = off + (fs.map fun f => P.cellsOf f.type).sum → ∃ x, RepA w none_ m0_ 0 (c x) (cs.drop off).toArray ∧ ok x
theorem opF_nil {off : Nat} : OpensFromA P off [] (fun _ : Unit => []) (fun _ => True) := ⟨fun _ hl => by
  simp at hl
  rw [List.drop_eq_nil_of_le (by omega)]
  exact ⟨(), ⟨rfl, fun j a b ha => by simp at ha⟩, trivial⟩⟩
theorem opF_cons {off k : Nat} {f : Field} {fs : List Field} {α β : Type} {c : α → List AV} {ok : α → Prop} {c' : β → List AV} {ok' : β → Prop}
    (ho : f.offset = off) (hk : P.cellsOf f.type = k) (h : OpensA P f.type c ok) (hr : OpensFromA P (off + k) fs c' ok') :
    OpensFromA P off (f :: fs) (fun x : α × β => c x.1 ++ c' x.2) (fun x => ok x.1 ∧ ok' x.2) := ⟨fun {H enc w base spare held fuel cs} hf hl => by
  obtain ⟨y, hy⟩ := hf f (List.mem_cons_self ..)
  obtain ⟨x, hx, hm⟩ := h.out hy
  simp only [List.map_cons, List.sum_cons, hk] at hl
  obtain ⟨x', hx', hm'⟩ := hr.out (fun g hg => hf g (List.mem_cons_of_mem _ hg)) (by omega)
  refine ⟨(x, x'), ?_, hm, hm'⟩
  rw [ho, hk] at hx
  have := repA_append hx hx'
  have e : (List.take k (List.drop off cs)).toArray ++ (List.drop (off + k) cs).toArray = (List.drop off cs).toArray := by
    rw [← List.drop_drop, List.append_toArray, List.take_append_drop]
  rw [e] at this; exact this⟩
theorem opA_struct {fs : Array Field} {α : Type} {c : α → List AV} {ok : α → Prop} (ht : P.underlying t = some (.struct fs)) (hc : P.cellsOf t = (fs.toList.map fun f => P.cellsOf f.type).sum)
    (h : OpensFromA P 0 fs.toList c ok) : OpensA P t c ok := ⟨fun hd => by
  obtain ⟨xs, n, _, _, hl, hlen, hf⟩ := DataW.trod_struct ht hd
  obtain ⟨x, hx, hm⟩ := h.out (fuel := n) (fun f hf' => by
    obtain ⟨i, hi, e⟩ := List.getElem_of_mem hf'
    have hi' : fs[i]? = some f := by rw [← Array.getElem?_toList, List.getElem?_eq_getElem hi, e]
    have hxi : i < xs.length := by rw [hlen]; simpa using hi
    exact ⟨xs[i], by rw [hf i f hi', List.getElem?_eq_getElem hxi]⟩) (by rw [hl, hc]; omega)
  exact ⟨x, by simpa using hx, hm⟩⟩
/-- The same reading, told by another type. -/
theorem opA_map {α β : Type} {c : α → List AV} {ok : α → Prop} {c' : β → List AV} {ok' : β → Prop} (f : α → β) (hc : ∀ x, c' (f x) = c x) (ho : ∀ x, ok x → ok' (f x)) (h : OpensA P t c ok) : OpensA P t c' ok' := ⟨fun hd => by
  obtain ⟨x, hx, hm⟩ := h.out hd
  exact ⟨f x, by rw [hc]; exact hx, ho x hm⟩⟩
theorem opA_array {n : Nat} {e : TypeId} {C : Nat} {α : Type} {c : α → List AV} {ok : α → Prop} (ht : P.underlying t = some (.array n e)) (hC : P.cellsOf e = C) (hC0 : 0 < C) (hct : P.cellsOf t = n * C) (hCx : ∀ x, (c x).length = C) (h : OpensA P e c ok) :
    OpensA P t (flat c) (fun l => l.length = n ∧ ∀ x ∈ l, ok x) := ⟨fun {H enc w base spare held fuel cs y} hd => by
  obtain ⟨xs, m, _, _, hl, hlen, hf⟩ := DataW.trod_array ht hd
  rw [hct] at hl
  have hx : ∀ i, i < n → ∃ x, RepA w none_ m0_ 0 (c x) ((cs.drop (i * C)).take C).toArray ∧ ok x := fun i hi => by
    have h1 := hf i hi
    rw [hC, List.getElem?_eq_getElem (by omega : i < xs.length)] at h1
    exact h.out h1
  obtain ⟨l, hll, hp⟩ := exists_list n hx
  refine ⟨l, ⟨by rw [flat_length hCx, hll]; simp [hl], fun j a b ha hb => ?_⟩, hll, fun x hx => ?_⟩
  · have hj : j < n * C := by rw [← hll, ← flat_length hCx l]; exact (List.getElem?_eq_some_iff.1 ha).1
    unfold flat at ha
    rw [flatten_get C hC0 _ (fun e he => by obtain ⟨x, _, rfl⟩ := List.mem_map.1 he; exact hCx x), List.getElem?_map] at ha
    obtain ⟨q, hq, ha⟩ := bind_some' ha
    obtain ⟨x, hx', rfl⟩ := map_some' hq
    refine (hp (j / C) x hx').1.2 (j % C) a b ha ?_
    have hb' : cs[j]? = some b := by simpa using hb
    rw [List.getElem?_toArray, List.getElem?_take, if_pos (Nat.mod_lt _ hC0), List.getElem?_drop, Nat.mul_comm, Nat.div_add_mod]
    exact hb'
  · obtain ⟨i, hi, e⟩ := List.getElem_of_mem hx
    exact (hp i x (by rw [List.getElem?_eq_getElem hi, e])).2⟩
theorem opA_slice {e : TypeId} {C : Nat} {α : Type} {c : α → List AV} {ok : α → Prop} (ht : P.underlying t = some (.slice e)) (hC : P.cellsOf e = C) (hC0 : 0 < C) (hCx : ∀ x, (c x).length = C) (h1 : ∀ x, (c x).all AV.one = true) (h : OpensA P e c ok) :
    OpensA P t (cL C c) (fun l => l.length ≤ 9223372036854775807 ∧ ∀ x ∈ l, ok x) := ⟨fun {H enc w base spare held fuel cs y} hd => by
  rcases open_slice ht hd with ⟨rfl, _⟩ | ⟨a, len, cap, m, n, D, Pl, rfl, hb, hl, hm, hmm, _, hi⟩
  · refine ⟨[], ⟨rfl, fun j a b ha hb => ?_⟩, Nat.zero_le _, fun x hx => by cases hx⟩
    cases j with
    | zero => simp [cL] at ha hb; subst ha; subst hb; exact .sl0 _ _
    | succ j => simp [cL] at ha
  · unfold maxLen at hm
    have hlm : len ≤ m := by rw [hmm]; split <;> omega
    rw [hC] at hi
    have hx : ∀ i, i < len → ∃ x, (∃ cs', w.cells? base (a.add (i * C)) C = some cs' ∧ RepA w none_ m0_ 0 (c x) cs'.toArray) ∧ ok x := by
      intro i hil
      obtain ⟨cs', hc, ht'⟩ := hi i (by omega)
      obtain ⟨x, hr, hx⟩ := h.out ht'
      exact ⟨x, ⟨cs', hc, hr⟩, hx⟩
    obtain ⟨l, hll, hp⟩ := exists_list len hx
    subst hll
    refine ⟨l, ⟨rfl, fun j a' b' ha hb' => ?_⟩, by omega, fun x hx => ?_⟩
    · have hj0 : j = 0 := by
        rcases Nat.eq_zero_or_pos j with h0 | h0
        · exact h0
        · rw [show j = (j - 1) + 1 by omega] at ha; simp [cL] at ha
      subst hj0
      simp [cL] at ha hb'
      subst ha; subst hb'
      cases hl0 : l with
      | nil => exact .sl0 _ _
      | cons x0 l0 =>
        rw [← hl0]
        have hlen0 : 0 < l.length := by rw [hl0]; simp
        have hspot : a.spot = none := by
          obtain ⟨⟨cs', h2, hr⟩, _⟩ := hp 0 l[0] (List.getElem?_eq_getElem hlen0)
          obtain ⟨_, hcl, hc⟩ := World.cells?_some h2
          have h0 := hc 0 hC0
          rw [List.getElem?_eq_getElem (by omega), Nat.zero_mul] at h0
          have e0 : (a.add 0).add 0 = a := by simp [Addr.add]
          rw [e0] at h0
          unfold World.cell? at h0
          split at h0
          · split at h0
            · cases h0
            · rename_i hs; simpa using hs
          · cases h0
        have hcell : ∀ (i : Nat) (e : List AV) (j : Nat) (av : AV), (l.map c)[i]? = some e → e[j]? = some av → ∃ v, w.cell? ⟨a.block, a.off + i * C + j, none⟩ = some v ∧ Rep w none_ m0_ 0 av v := fun i e j av he ha => by
          rw [List.getElem?_map] at he
          obtain ⟨x, hx, rfl⟩ := map_some' he
          obtain ⟨⟨cs', h2, hr⟩, _⟩ := hp i x hx
          obtain ⟨_, hcl, hc⟩ := World.cells?_some h2
          have hj : j < C := by rw [← hCx x]; exact (List.getElem?_eq_some_iff.1 ha).1
          have h3 := hc j hj
          rw [add_at a _ hspot, add_at _ _ rfl, List.getElem?_eq_getElem (by omega)] at h3
          exact ⟨_, h3, hr.2 j av _ ha (by simp [hcl, hj])⟩
        have hval : ∀ (i : Nat) (e : List AV) (j : Nat) (av : AV), (l.map c)[i]? = some e → e[j]? = some av → w.cell? ⟨a.block, a.off + i * C + j, none⟩ = some ((w.cell? ⟨a.block, a.off + i * C + j, none⟩).getD undef) ∧ Rep w none_ m0_ 0 av ((w.cell? ⟨a.block, a.off + i * C + j, none⟩).getD undef) := fun i e j av he ha => by
          obtain ⟨v, h2, h3⟩ := hcell i e j av he ha
          rw [h2]; exact ⟨rfl, h3⟩
        have hg : a.block < w.heap.size := by
          obtain ⟨v, h2, _⟩ := hcell 0 (c l[0]) 0 ((c l[0])[0]'(by rw [hCx]; exact hC0)) (by rw [List.getElem?_map, List.getElem?_eq_getElem hlen0]; rfl) (List.getElem?_eq_getElem _)
          exact World.block_lt_of_cell? w ⟨a.block, a.off + 0 * C + 0, none⟩ h2
        have ha2 : a = ⟨a.block, a.off, none⟩ := by obtain ⟨b, o, s⟩ := a; simp at hspot; subst hspot; rfl
        have := Rep.sl (w := w) (S := none_) (m := m0_) (nx := 0) (sz := C) (es := l.map c) a.block a.off cap (fun i j => (w.cell? ⟨a.block, a.off + i * C + j, none⟩).getD undef) hg (fun h => h) (fun e he => by obtain ⟨x, _, rfl⟩ := List.mem_map.1 he; exact hCx x) (fun i e j av he ha => (hval i e j av he ha).1) (fun i e j av he ha => by
          refine (hval i e j av he ha).2.oneC ?_
          rw [List.getElem?_map] at he
          obtain ⟨x, _, rfl⟩ := map_some' he
          exact List.all_eq_true.1 (h1 x) av (List.mem_of_getElem? ha)) (fun i e j av he ha => (hval i e j av he ha).2) (by rw [List.length_map]; exact hl)
        rw [List.length_map, ← ha2] at this
        exact this
    · obtain ⟨i, hi', e⟩ := List.getElem_of_mem hx
      exact (hp i x (by rw [List.getElem?_eq_getElem hi', e])).2⟩
/-- An argument of a type whose value is one cell. -/
theorem arg_one {H : Type} {enc : TypeId × Value → H} {w : World} {base : Nat} {spare : Nat → Bool} {held : Bool} {α : Type} {c : α → List AV} {ok : α → Prop} {a : α → AV} {v : Value} {d : DataW H} {ps : List MemPlace} (hca : ∀ x, c x = [a x]) (hv : v.cells = #[v]) (h : OpensA P t c ok)
    (hd : DataW.Trod enc P w base spare held t v d ps) : ∃ x, Rep w none_ m0_ 0 (a x) v ∧ ok x := by
  obtain ⟨fuel, hf⟩ := hd
  obtain ⟨x, hr, hx⟩ := h.out hf
  rw [hca, hv] at hr
  exact ⟨x, hr.2 0 _ _ rfl rfl, hx⟩
/-- An argument that is a struct or an array. -/
theorem arg_agg {H : Type} {enc : TypeId × Value → H} {w : World} {base : Nat} {spare : Nat → Bool} {held : Bool} {α : Type} {c : α → List AV} {ok : α → Prop} {cs : Array Value} {d : DataW H} {ps : List MemPlace} (h : OpensA P t c ok)
    (hd : DataW.Trod enc P w base spare held t (.agg cs) d ps) : ∃ x, Rep w none_ m0_ 0 (.agg (c x)) (.agg cs) ∧ ok x := by
  obtain ⟨fuel, hf⟩ := hd
  obtain ⟨x, hr, hx⟩ := h.out hf
  have hr' : RepA w none_ m0_ 0 (c x) cs := by simpa [Value.cells] using hr
  exact ⟨x, .agg cs hr'.1 hr'.2, hx⟩
/-- From a contract to the call itself. -/
theorem globs_nil {W : World} {S0 Si : Nat → Prop} (h : globTab = []) : Globs W S0 Si := fun g cs hg => by rw [h] at hg; cases hg
theorem spec_run' {f : FuncId} {args : List AV} {u : Value} (h : Spec P f args [] 0 (.s u) [] 0) {W : World} {vs : Array Value} (hgl : Globs W (Lv [] m0_) none_) (hr : RepA W none_ m0_ 0 args vs) :
    Calls P f vs W fun e w' => e = .returned u ∧ Below W.heap.size W w' := by
  have hno : ∀ i, ¬ Lv [] m0_ i := fun i ⟨b, k, hb, _⟩ => by cases hb
  refine (h.2 W none_ m0_ vs ⟨hgl, rfl, rfl, rfl, Nat.le_refl _, fun _ _ _ => rfl, fun _ _ => ⟨id, fun h _ => h⟩, fun _ _ => rfl, Nat.le_refl _, fun _ h => h.elim, (fun b k hg => by cases hg), (fun b k hg => by cases hg), (fun b b' k k' hg => by cases hg)⟩ hr).mono fun e w' ⟨v, S', m', h1, h2, h3⟩ => ?_
  have := rep_s' h3
  subst this
  exact ⟨h1, h2.os, h2.tape, h2.output, h2.size, fun k hk => h2.keep k hk (hno k)⟩
theorem repA_nil {w : World} : RepA w none_ m0_ 0 [] #[] := ⟨rfl, fun j a b ha => by simp at ha⟩
theorem repA_cons {w : World} {x : AV} {v : Value} {xs : List AV} {vs : List Value} (h : Rep w none_ m0_ 0 x v) (hs : RepA w none_ m0_ 0 xs vs.toArray) : RepA w none_ m0_ 0 (x :: xs) (v :: vs).toArray := ⟨by have := hs.1; simp at this ⊢; exact this, fun j a b ha hb => by
  cases j with
  | zero => simp at ha hb; subst ha; subst hb; exact h
  | succ j => exact hs.2 j a b (by simpa using ha) (by simpa using hb)⟩
end
end Go.Proofs.YtdfokoapenhalaaDoor.Ab
