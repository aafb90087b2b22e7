/- Arguments opened by their types: what a reading says of the cells, type by type. -/
import Derived.Test.YtdfokoapenhalaaDoorKin
import Derived.ProofKit
import Derived.OpenShut
import Derived.Deep.Slices
namespace Go.Proofs.YtdfokoapenhalaaDoor
open Go.ChangeShapes Go.WideShapes Go.RowKit Go.Deep

/-- Every reading of type t is that of some x, laid in the cells 'cells x'; 'mem' is what else it says of the world. -/
structure Opens (P : Program) (t : TypeId) {α : Type} (cells : α → List Value) (mem : World → α → Prop) : Prop where
  out : ∀ {H : Type} {enc : TypeId × Value → H} {w : World} {base : Nat} {spare : Nat → Bool} {held : Bool} {fuel : Nat} {cs : List Value} {y : DataW H × List MemPlace},
    DataW.trod enc P w base spare held fuel t cs = some y → ∃ x, cs = cells x ∧ mem w x

section
variable {P : Program} {t : TypeId}
theorem opens_int {k : IntKind} (ht : P.underlying t = some (.int k)) : Opens P t (fun n : Int => [.int k n]) (fun _ n => (Lit.int k n).wf = true) := ⟨fun h => by
  obtain ⟨n, rfl, _, hw⟩ := DataW.trod_int ht h
  exact ⟨n, rfl, hw⟩⟩
theorem opens_i64 (ht : P.underlying t = some (.int .i64)) : Opens P t (fun n : Int => [.int .i64 n]) (fun _ n => -9223372036854775808 ≤ n ∧ n ≤ 9223372036854775807) := ⟨fun h => by
  obtain ⟨n, rfl, _, hw⟩ := DataW.trod_int ht h
  exact ⟨n, rfl, bounds_i64 hw⟩⟩
theorem opens_bool (ht : P.underlying t = some .bool) : Opens P t (fun b : Bool => [.bool b]) (fun _ _ => True) := ⟨fun h => by
  obtain ⟨b, rfl, _⟩ := DataW.trod_bool ht h
  exact ⟨b, rfl, trivial⟩⟩
theorem opens_string (ht : P.underlying t = some .string) : Opens P t (fun s : ByteArray => [.string s]) (fun _ s => s.size ≤ maxLen) := ⟨fun h => by
  obtain ⟨s, rfl, _, hs⟩ := DataW.trod_string ht h
  exact ⟨s, rfl, hs⟩⟩

/-- Fields laid one behind the other from an offset on. -/
structure OpensFrom (P : Program) (off : Nat) (fs : List Field) {α : Type} (cells : α → List Value) (mem : World → α → Prop) : Prop where
  out : ∀ {H : Type} {enc : TypeId × Value → H} {w : World} {base : Nat} {spare : Nat → Bool} {held : Bool} {fuel : Nat} {cs : List Value},
    (∀ f ∈ fs, ∃ y, DataW.trod enc P w base spare held fuel f.type ((cs.drop f.offset).take (P.cellsOf f.type)) = some y) → cs.length = off + (fs.map fun f => P.cellsOf f.type).sum → ∃ x, cs.drop off = cells x ∧ mem w x
theorem opensFrom_nil {off : Nat} : OpensFrom P off [] (fun _ : Unit => []) (fun _ _ => True) := ⟨fun _ hl => by
  refine ⟨(), ?_, trivial⟩
  simp at hl
  exact List.drop_eq_nil_of_le (by omega)⟩
theorem opensFrom_cons {off k : Nat} {f : Field} {fs : List Field} {α β : Type} {cells : α → List Value} {mem : World → α → Prop} {cells' : β → List Value} {mem' : World → β → Prop}
    (ho : f.offset = off) (hk : P.cellsOf f.type = k) (h : Opens P f.type cells mem) (hr : OpensFrom P (off + k) fs cells' mem') :
    OpensFrom P off (f :: fs) (fun x : α × β => cells x.1 ++ cells' x.2) (fun w x => mem w x.1 ∧ mem' w x.2) := ⟨fun hf hl => by
  obtain ⟨y, hy⟩ := hf f (List.mem_cons_self ..)
  obtain ⟨x, hx, hm⟩ := h.out hy
  simp only [List.map_cons, List.sum_cons, hk] at hl
  obtain ⟨x', hx', hm'⟩ := hr.out (fun g hg => hf g (List.mem_cons_of_mem _ hg)) (by omega)
  refine ⟨(x, x'), ?_, hm, hm'⟩
  rw [ho, hk] at hx
  show _ = cells x ++ cells' x'
  rw [← hx, ← hx', ← List.drop_drop, List.take_append_drop]⟩
theorem opens_struct {fs : Array Field} {α : Type} {cells : α → List Value} {mem : World → α → Prop} (ht : P.underlying t = some (.struct fs)) (hc : P.cellsOf t = (fs.toList.map fun f => P.cellsOf f.type).sum)
    (h : OpensFrom P 0 fs.toList cells mem) : Opens P t cells mem := ⟨fun hd => by
  obtain ⟨xs, n, _, _, hl, hlen, hf⟩ := DataW.trod_struct ht hd
  obtain ⟨x, hx, hm⟩ := h.out (fuel := n) (fun f hf' => by
    obtain ⟨i, hi, e⟩ := List.getElem_of_mem hf'
    have hi' : fs[i]? = some f := by rw [← Array.getElem?_toList, List.getElem?_eq_getElem hi, e]
    have hxi : i < xs.length := by rw [hlen]; simpa using hi
    exact ⟨xs[i], by rw [hf i f hi', List.getElem?_eq_getElem hxi]⟩) (by rw [hl, hc]; omega)
  exact ⟨x, by simpa using hx, hm⟩⟩

/-- An array of booleans. -/
theorem opens_bools {n : Nat} {e : TypeId} (ht : P.underlying t = some (.array n e)) (he : P.underlying e = some .bool) (hc : P.cellsOf e = 1) (hct : P.cellsOf t = n) :
    Opens P t (fun l : List Bool => l.map Value.bool) (fun _ l => l.length = n) := by
  refine ⟨?_⟩
  intro H enc w base spare held fuel cs y h
  obtain ⟨xs, m, _, _, hl, hlen, hf⟩ := DataW.trod_array ht h
  rw [hct] at hl
  have hb : ∀ i, i < n → ∃ b, cs[i]? = some (.bool b) := by
    intro i hi
    have h1 := hf i hi
    rw [hc, Nat.mul_one, List.getElem?_eq_getElem (by omega : i < xs.length)] at h1
    obtain ⟨b, hb, _⟩ := DataW.trod_bool he h1
    refine ⟨b, ?_⟩
    have := congrArg (fun l => l[0]?) hb
    simpa [List.getElem?_take, List.getElem?_drop] using this
  clear hf hlen h
  have hall : ∀ (cs : List Value) (n : Nat), cs.length = n → (∀ i, i < n → ∃ b, cs[i]? = some (.bool b)) → ∃ l : List Bool, cs = l.map Value.bool ∧ l.length = n := by
    intro cs
    induction cs with
    | nil => intro n hn _; exact ⟨[], rfl, by simpa using hn⟩
    | cons v cs ih =>
      intro n hn hh
      obtain ⟨b, hb⟩ := hh 0 (by rw [← hn]; simp)
      obtain ⟨l, hl, hll⟩ := ih cs.length rfl (fun i hi => by simpa using hh (i + 1) (by rw [← hn, List.length_cons]; omega))
      exact ⟨b :: l, by simp at hb; rw [hb, hl]; rfl, by rw [List.length_cons, hll, ← hn, List.length_cons]⟩
  exact hall cs n hl hb

/-- A slice: its address, its capacity, its elements. -/
structure Sl (α : Type) where
  A : Option Addr
  cap : Nat
  l : List α
theorem exists_list {α : Type} {p : Nat → α → Prop} : ∀ n : Nat, (∀ i, i < n → ∃ x, p i x) → ∃ l : List α, l.length = n ∧ ∀ i x, l[i]? = some x → p i x
  | 0, _ => ⟨[], rfl, fun i x h => by simp at h⟩
  | n + 1, h => by
    obtain ⟨l, hl, hp⟩ := exists_list n (fun i hi => h i (by omega))
    obtain ⟨x, hx⟩ := h n (by omega)
    refine ⟨l ++ [x], by simp [hl], fun i y hy => ?_⟩
    by_cases c : i < n
    · rw [List.getElem?_append_left (by omega)] at hy; exact hp i y hy
    · rw [List.getElem?_append_right (by omega)] at hy
      have : i = n := by
        have := (List.getElem?_eq_some_iff.1 hy).1
        simp at this; omega
      subst this
      rw [hl, Nat.sub_self] at hy
      simp at hy; subst hy; exact hx
theorem add_at (a : Addr) (n : Nat) (h : a.spot = none) : a.add n = ⟨a.block, a.off + n, none⟩ := by
  unfold Addr.add
  obtain ⟨b, o, s⟩ := a
  simp at h; subst h
  split
  · subst_vars; rfl
  · rfl
/-- The cells of a list of elements, C cells each. -/
theorem flatMap_at {α : Type} {cells : α → List Value} {C : Nat} (hC : ∀ x, (cells x).length = C) (l : List α) (i k : Nat) (hk : k < C) : (l.flatMap cells)[i * C + k]? = (l[i]?).bind fun x => (cells x)[k]? := by
  induction l generalizing i with
  | nil => simp
  | cons x l ih =>
    rw [List.flatMap_cons]
    cases i with
    | zero => rw [Nat.zero_mul, Nat.zero_add, List.getElem?_append_left (by rw [hC]; exact hk)]; simp
    | succ i =>
      rw [List.getElem?_append_right (by rw [hC, Nat.succ_mul]; omega), hC]
      have e : (i + 1) * C + k - C = i * C + k := by rw [Nat.succ_mul]; omega
      rw [e, ih]; simp
theorem flatMap_length {α : Type} {cells : α → List Value} {C : Nat} (hC : ∀ x, (cells x).length = C) (l : List α) : (l.flatMap cells).length = l.length * C := by
  induction l with
  | nil => simp
  | cons x l ih => rw [List.flatMap_cons, List.length_append, hC, ih, List.length_cons, Nat.succ_mul]; omega
theorem opens_slice {e : TypeId} {C : Nat} {α : Type} {cells : α → List Value} {mem : World → α → Prop} (ht : P.underlying t = some (.slice e)) (hC : P.cellsOf e = C) (hC0 : 0 < C) (hCx : ∀ x, (cells x).length = C) (h : Opens P e cells mem) :
    Opens P t (fun s : Sl α => [.slice s.A s.l.length s.cap]) (fun w s => Row w s.A (s.l.flatMap cells) ∧ s.l.length ≤ s.cap ∧ s.cap ≤ 9223372036854775807 ∧ ∀ x ∈ s.l, mem w x) := by
  refine ⟨?_⟩
  intro H enc w base spare held fuel cs y hd
  rcases open_slice ht hd with ⟨rfl, _⟩ | ⟨a, len, cap, m, n, D, Pl, rfl, hb, hl, hm, hmm, _, hi⟩
  · exact ⟨⟨none, 0, []⟩, rfl, Row.nil _ _, Nat.le_refl _, Nat.zero_le _, fun x hx => by cases hx⟩
  · unfold maxLen at hm
    have hlm : len ≤ m := by rw [hmm]; split <;> omega
    rw [hC] at hi
    have hx : ∀ i, i < len → ∃ x, w.cells? base (a.add (i * C)) C = some (cells x) ∧ mem w x := by
      intro i hil
      obtain ⟨cs', hc, ht'⟩ := hi i (by omega)
      obtain ⟨x, rfl, hx⟩ := h.out ht'
      exact ⟨x, hc, hx⟩
    obtain ⟨l, hll, hp⟩ := exists_list len hx
    subst hll
    refine ⟨⟨some a, cap, l⟩, rfl, ?_, hl, hm, ?_⟩
    · intro hne
      have hl0 : 0 < l.length := by
        rcases Nat.eq_zero_or_pos l.length with h0 | h0
        · exact absurd (by rw [List.eq_nil_of_length_eq_zero h0]; rfl) hne
        · exact h0
      have hspot : a.spot = none := by
        obtain ⟨_, _, hc⟩ := World.cells?_some (hp 0 l[0] (List.getElem?_eq_getElem hl0)).1
        have h0 := hc 0 hC0
        rw [List.getElem?_eq_getElem (by rw [hCx]; exact hC0), Nat.zero_mul] at h0
        have e0 : (a.add 0).add 0 = a := by simp [Addr.add]
        rw [e0] at h0
        unfold World.cell? at h0
        split at h0
        · split at h0
          · cases h0
          · rename_i hs; simpa using hs
        · cases h0
      refine ⟨a.block, a.off, by obtain ⟨b, o, s⟩ := a; simp at hspot; subst hspot; rfl, fun j v hv => ?_⟩
      have hj : j < l.length * C := by rw [← flatMap_length hCx]; exact (List.getElem?_eq_some_iff.1 hv).1
      have hjd : j = (j / C) * C + j % C := by rw [Nat.mul_comm]; exact (Nat.div_add_mod j C).symm
      have hjm : j % C < C := Nat.mod_lt _ hC0
      rw [hjd, flatMap_at hCx _ _ _ hjm] at hv
      have hjl : j / C < l.length := Nat.div_lt_of_lt_mul (by rw [Nat.mul_comm]; exact hj)
      rw [List.getElem?_eq_getElem hjl] at hv
      simp only [Option.bind_some] at hv
      obtain ⟨_, _, hc⟩ := World.cells?_some (hp (j / C) l[j / C] (List.getElem?_eq_getElem hjl)).1
      have := hc (j % C) hjm
      rw [hv] at this
      have e2 : (a.add (j / C * C)).add (j % C) = ⟨a.block, a.off + j, none⟩ := by
        rw [add_at a _ hspot, add_at _ _ rfl]
        show (⟨a.block, a.off + j / C * C + j % C, none⟩ : Addr) = _
        rw [Nat.add_assoc, ← hjd]
      rw [e2] at this
      exact this
    · intro x hx
      obtain ⟨i, hi', e⟩ := List.getElem_of_mem hx
      exact (hp i x (by rw [List.getElem?_eq_getElem hi', e])).2
/-- A struct as an argument. -/
theorem open_agg {H : Type} {enc : TypeId × Value → H} {w : World} {r : Reach} {b0 base : Nat} {spare : Nat → Bool} {held : Bool} {fs : Array Field} {α : Type} {cells : α → List Value} {mem : World → α → Prop} {v : Value} {d : DataW H} {ps : List MemPlace}
    (ht : P.underlying t = some (.struct fs)) (h : Opens P t cells mem) (hv : Value.okWide P w r b0 t v) (hd : DataW.Trod enc P w base spare held t v d ps) : ∃ x, v = .agg (cells x).toArray ∧ mem w x := by
  obtain ⟨cs, rfl, _⟩ := okWide_struct ht hv
  obtain ⟨fuel, hf⟩ := hd
  obtain ⟨x, hx, hm⟩ := h.out hf
  refine ⟨x, ?_, hm⟩
  have : cs.toList = cells x := hx
  rw [← this]
/-- A slice as an argument. -/
theorem open_sl {H : Type} {enc : TypeId × Value → H} {w : World} {r : Reach} {b0 base : Nat} {spare : Nat → Bool} {held : Bool} {e : TypeId} {α : Type} {mem : World → Sl α → Prop} {v : Value} {d : DataW H} {ps : List MemPlace}
    (ht : P.underlying t = some (.slice e)) (h : Opens P t (fun s : Sl α => [.slice s.A s.l.length s.cap]) mem) (hv : Value.okWide P w r b0 t v) (hd : DataW.Trod enc P w base spare held t v d ps) : ∃ s : Sl α, v = .slice s.A s.l.length s.cap ∧ mem w s := by
  obtain ⟨a, len, cap, rfl⟩ := okWide_slice ht hv
  obtain ⟨fuel, hf⟩ := hd
  obtain ⟨x, hx, hm⟩ := h.out hf
  refine ⟨x, ?_, hm⟩
  have : [Value.slice a len cap] = [Value.slice x.A x.l.length x.cap] := hx
  exact List.head_eq_of_cons_eq this
end
end Go.Proofs.YtdfokoapenhalaaDoor
