/- Abstract runs by steps: operations on rows of plain values. -/
import Derived.Test.YtgggekjhfdkgkaaAbR
namespace Go.Proofs.Ytgggekjhfdkgkaa.Ab
open Go Go.RowKit Go.Shelf
abbrev I (n : Int) : AV := .s (.int .i64 n)
abbrev B (b : Bool) : AV := .s (.bool b)
abbrev Sr (b : ByteArray) : AV := .s (.string b)
abbrev U : AV := .s undef
abbrev Nl : AV := .s (.slice none 0 0)
abbrev Nf : AV := .s .nilFunc
/-- A slice of plain values. -/
abbrev sl {α : Type} (k : Nat) (c : α → List AV) (l : List α) : AV := .sl k (l.map c)
def cI (x : Int) : List AV := [I x]
def cU8 (x : Int) : List AV := [.s (.int .u8 x)]
def cU16 (x : Int) : List AV := [.s (.int .u16 x)]
def cU32 (x : Int) : List AV := [.s (.int .u32 x)]
def cU64 (x : Int) : List AV := [.s (.int .u64 x)]
def cI32 (x : Int) : List AV := [.s (.int .i32 x)]
def cB (x : Bool) : List AV := [B x]
def cS (x : ByteArray) : List AV := [Sr x]
def cL {α : Type} (k : Nat) (c : α → List AV) (x : List α) : List AV := [sl k c x]
section
variable {P : Program} {n : Nat} {ρ : Operand → Option AV} {hp : List (Nat × Blk)} {nx : Nat} {α : Type} {c : α → List AV} {k : Nat}
theorem all_and {α : Type} {c : α → List AV} {n d : Nat} (h1 : ∀ x, (c x).all (AV.keyed n d) = true) (h2 : ∀ x, (c x).all AV.one = true) (x : α) (a : AV) (h : a ∈ c x) : a.keyed n d = true ∧ a.one = true := ⟨List.all_eq_true.1 (h1 x) a h, List.all_eq_true.1 (h2 x) a h⟩
theorem SubL.of_eq {xs ys : List AV} (h : xs = ys) : SubL xs ys := by subst h; exact SubL.refl xs
theorem Sub.of_eq {x y : AV} (h : x = y) : Sub x y := by subst h; exact Sub.refl x
theorem SubL.get {xs ys : List AV} (h : SubL xs ys) : xs.length = ys.length ∧ ∀ (j : Nat) (y : AV), ys[j]? = some y → ∃ x, xs[j]? = some x ∧ Sub x y := by
  induction h with
  | nil => exact ⟨rfl, fun j y hy => by simp at hy⟩
  | cons h1 _ ih =>
    refine ⟨by simp [ih.1], fun j y hy => ?_⟩
    cases j with
    | zero => simp at hy; subst hy; exact ⟨_, rfl, h1⟩
    | succ j => simpa using ih.2 j y (by simpa using hy)
theorem Sub.agg {xs ys : List AV} (h : SubL xs ys) : Sub (.agg xs) (.agg ys) := fun w S m nx v hr => by
  obtain ⟨h1, h2⟩ := h.get
  cases hr with
  | agg vs hl hr =>
    refine .agg vs (by rw [← h1]; exact hl) fun j y b hy hb => ?_
    obtain ⟨x, hx, hs⟩ := h2 j y hy
    exact hs _ _ _ _ _ (hr j x b hx hb)
theorem Sub.own0 (b sz : Nat) : Sub (.own b 0) (.sl sz []) := fun w S m nx v hr => by
  cases hr with
  | own _ _ h => exact .sl0 _ _
theorem ev_idx_sl {t e : TypeId} {x i : Operand} {l : List α} {ik : IntKind} {j : Int} {a : α} (h : getI l j = some a) (hu : P.underlying t = some (.slice e)) (hs : sizeT P e = some k) (hx : ρ x = some (sl k c l)) (hi : ρ i = some (.s (.int ik j))) :
    aPure P ρ hp (.indexAddr t x i) = some (.ip (c a)) := by
  obtain ⟨h0, h1⟩ := getI_some h
  show ((ρ x).bind fun x => (ρ i).bind fun i => aIndexAt P t x i) = _
  rw [hx, hi]
  simp [aIndexAt, hu, hs, h0, h1]
theorem ev_idx_own {t e : TypeId} {x i : Operand} {l : List α} {b N : Nat} {ik : IntKind} {j : Int} {a : α} (h : getI l j = some a) (hn : N = l.length) (hu : P.underlying t = some (.slice e)) (hs : sizeT P e = some k) (hx : ρ x = some (.own b N)) (hi : ρ i = some (.s (.int ik j))) :
    aPure P ρ hp (.indexAddr t x i) = some (.ptr b (j.toNat * k)) := by
  obtain ⟨h0, h1⟩ := getI_lt h
  show ((ρ x).bind fun x => (ρ i).bind fun i => aIndexAt P t x i) = _
  rw [hx, hi]
  subst hn
  simp [aIndexAt, hu, hs, h0, h1]
theorem ev_idx_grow {t e : TypeId} {x i : Operand} {l : List α} {b : Nat} {ik : IntKind} {j : Int} {a : α} (h : getI l j = some a) (hu : P.underlying t = some (.slice e)) (hs : sizeT P e = some k) (hx : ρ x = some (growE b l)) (hi : ρ i = some (.s (.int ik j))) :
    aPure P ρ hp (.indexAddr t x i) = some (.ptr b (j.toNat * k)) :=
  ev_idx_own h rfl hu hs (by rw [hx, growE_own (by have := getI_lt h; omega)]) hi
theorem ev_idx_arr {t e : TypeId} {x i : Operand} {l : List α} {b N : Nat} {ik : IntKind} {j : Int} {a : α} (h : getI l j = some a) (hl : l.length = N) (hu : P.underlying t = some (.array N e)) (hs : sizeT P e = some k) (hx : ρ x = some (.ptr b 0)) (hi : ρ i = some (.s (.int ik j))) :
    aPure P ρ hp (.indexAddr t x i) = some (.ptr b (j.toNat * k)) := by
  obtain ⟨h0, h1⟩ := getI_lt h
  show ((ρ x).bind fun x => (ρ i).bind fun i => aIndexAt P t x i) = _
  rw [hx, hi]
  simp [aIndexAt, hu, hs, h0, hl ▸ h1]
theorem ev_ix_arr {t e : TypeId} {x i : Operand} {l : List α} {N : Nat} {ik : IntKind} {j : Int} {a : α} {y : AV} (hc : ∀ x, (c x).length = k) (h : getI l j = some a) (hl : l.length = N) (hu : P.underlying t = some (.array N e)) (hs : sizeT P e = some k) (hx : ρ x = some (.agg (flat c l))) (hi : ρ i = some (.s (.int ik j))) (hy : aPart P e (c a) 0 = some y) :
    aPure P ρ hp (.index t x i) = some y := by
  obtain ⟨h0, h1⟩ := getI_lt h
  show ((ρ x).bind fun x => (ρ i).bind fun i => aIndex P t x i) = _
  rw [hx, hi]
  have := part_flat (P := P) (t := e) hc (getI_some h).2 hy
  rw [Nat.add_zero] at this
  simp [aIndex, hu, hs, h0, hl ▸ h1, this]
/-- A part of an element of an own row, read. -/
theorem ev_load_row {t ty : TypeId} {x : Operand} {l : List α} {b i j o sz : Nat} {a : α} {y : AV} (hc : ∀ x, (c x).length = k) (h : l[i]? = some a) (ho : o = i * k + j) (hx : ρ x = some (.ptr b o)) (hb : get b hp = some ⟨ty, sz, flat c l⟩) (hy : aPart P t (c a) j = some y) :
    aPure P ρ hp (.load t x) = some y := by
  show ((ρ x).bind (aLoad P t hp)) = _
  rw [hx, ho]
  show (match get b hp with | some k => aPart P t k.cs _ | none => none) = _
  rw [hb]
  exact part_flat hc h hy
/-- A whole row, read. -/
theorem ev_load_arr {t ty : TypeId} {dsc : TypeDesc} {x : Operand} {l : List α} {b sz s : Nat} (hc : ∀ x, (c x).length = k) (hl : l.length * k = s) (hu : P.underlying t = some dsc) (hr : dsc.isRow = true) (hs : sizeT P t = some s) (hx : ρ x = some (.ptr b 0)) (hb : get b hp = some ⟨ty, sz, flat c l⟩) :
    aPure P ρ hp (.load t x) = some (.agg (flat c l)) := by
  have hlen := flat_length hc l
  show ((ρ x).bind (aLoad P t hp)) = _
  rw [hx]
  show (match get b hp with | some k => aPart P t k.cs _ | none => none) = _
  rw [hb]
  show aPart P t (flat c l) 0 = _
  unfold aPart
  rw [hu]
  simp only [hr, if_true, hs, List.drop_zero]
  rw [if_pos (by omega), List.take_of_length_le (by omega)]
/-- A pointer to an array in an array, and into it. -/
theorem ev_idx_at {t e : TypeId} {x i : Operand} {b o N : Nat} {ik : IntKind} {j : Int} (h : 0 ≤ j ∧ j < N) (hu : P.underlying t = some (.array N e)) (hs : sizeT P e = some k) (hx : ρ x = some (.ptr b o)) (hi : ρ i = some (.s (.int ik j))) :
    aPure P ρ hp (.indexAddr t x i) = some (.ptr b (o + j.toNat * k)) := by
  show ((ρ x).bind fun x => (ρ i).bind fun i => aIndexAt P t x i) = _
  rw [hx, hi]
  simp [aIndexAt, hu, hs, h]
theorem ev_idx_sub {t e : TypeId} {x i : Operand} {b N : Nat} {ik : IntKind} {j : Int} (h : 0 ≤ j ∧ j < N) (hu : P.underlying t = some (.array N e)) (hs : sizeT P e = some k) (hx : ρ x = some (.ptr b 0)) (hi : ρ i = some (.s (.int ik j))) :
    aPure P ρ hp (.indexAddr t x i) = some (.ptr b (j.toNat * k)) := by
  rw [ev_idx_at h hu hs hx hi, Nat.zero_add]
/-- An array in an array. -/
theorem ev_ix_sub {t e : TypeId} {dsc : TypeDesc} {x i : Operand} {l : List α} {N m s : Nat} {ik : IntKind} {j : Int} (hc : ∀ x, (c x).length = k) (h : 0 ≤ j ∧ j < N) (hl : l.length = N * m) (hu : P.underlying t = some (.array N e)) (hu2 : P.underlying e = some dsc) (hr : dsc.isRow = true) (hs : sizeT P e = some s) (hsm : s = m * k) (hx : ρ x = some (.agg (flat c l))) (hi : ρ i = some (.s (.int ik j))) :
    aPure P ρ hp (.index t x i) = some (.agg (flat c ((l.drop (j.toNat * m)).take m))) := by
  show ((ρ x).bind fun x => (ρ i).bind fun i => aIndex P t x i) = _
  rw [hx, hi]
  have e1 : j.toNat * s = j.toNat * m * k := by rw [hsm, Nat.mul_assoc]
  have e2 : (flat c l).length = l.length * k := flat_length hc l
  have e3 : j.toNat + 1 ≤ N := by omega
  have e4 : (j.toNat + 1) * m ≤ N * m := Nat.mul_le_mul_right m e3
  have e5 : (j.toNat + 1) * m * k ≤ N * m * k := Nat.mul_le_mul_right k e4
  have e6 : (j.toNat + 1) * m * k = j.toNat * m * k + m * k := by rw [Nat.add_mul, Nat.one_mul, Nat.add_mul]
  simp only [Option.bind_some, aIndex, hu, hs, h, and_self, if_true]
  unfold aPart
  simp only [hu2, hr, if_true, hs]
  rw [if_pos (by rw [e1, e2, hl, hsm]; omega), e1, flat_drop hc, hsm, flat_take hc]
/-- A part of an element of an own row, written. -/
theorem hv_store_row {t ty : TypeId} {x v : Operand} {l : List α} {b i j o sz s : Nat} {a a' : α} {y : AV} (hc : ∀ x, (c x).length = k) (h : l[i]? = some a) (ho : o = i * k + j) (hx : ρ x = some (.ptr b o)) (hv : ρ v = some y) (hb : get b hp = some ⟨ty, sz, flat c l⟩) (hs : sizeT P t = some s) (hys : y.cells.length = s) (hy1 : y.cells.all AV.one = true) (hj : j + s ≤ k)
    (hy : c a' = (c a).take j ++ y.cells ++ (c a).drop (j + s)) : aHeap P ρ hp nx (.store t x v) = some (U, putB b ⟨ty, sz, flat c (l.set i a')⟩ hp, nx) := by
  subst ho
  have hil := (List.getElem?_eq_some_iff.1 h).1
  have hle : i * k + k ≤ (flat c l).length := by
    rw [flat_length hc, show i * k + k = (i + 1) * k by rw [Nat.add_mul, Nat.one_mul]]; exact Nat.mul_le_mul_right k hil
  have hp' := flat_put hc h (v := y.cells) (by rw [hys]; exact hj) (by rw [hys]; exact hy)
  rw [hys] at hp'
  show (match ρ x, ρ v with | some x, some v => (aStore P t hp x v).map fun hp => (AV.s undef, hp, nx) | _, _ => none) = _
  rw [hx, hv]
  simp only [aStore, hb, hs]
  rw [if_pos ⟨hys, hy1⟩, if_pos (by omega), hp']
  rfl
/-- A whole row, written. -/
theorem hv_store_arr {t ty : TypeId} {x v : Operand} {l m : List α} {b sz s : Nat} (hc : ∀ x, (c x).length = k) (hx : ρ x = some (.ptr b 0)) (hv : ρ v = some (.agg (flat c m))) (hb : get b hp = some ⟨ty, sz, flat c l⟩) (hs : sizeT P t = some s) (hl : l.length * k = s) (hm : m.length * k = s) (h1 : ∀ x, (c x).all AV.one = true) :
    aHeap P ρ hp nx (.store t x v) = some (U, putB b ⟨ty, sz, flat c m⟩ hp, nx) := by
  have e1 := flat_length hc l
  have e2 := flat_length hc m
  show (match ρ x, ρ v with | some x, some v => (aStore P t hp x v).map fun hp => (AV.s undef, hp, nx) | _, _ => none) = _
  rw [hx, hv]
  simp only [aStore, hb, hs]
  rw [if_pos ⟨by show (flat c m).length = s; omega, flat_all AV.one h1 m⟩, if_pos (by omega)]
  show some (U, putB b ⟨ty, sz, (flat c l).take 0 ++ flat c m ++ (flat c l).drop (0 + s)⟩ hp, nx) = _
  rw [List.take_zero, List.nil_append, List.drop_eq_nil_of_le (by omega), List.append_nil]
theorem ev_len_sl {t ty e : TypeId} {x : Operand} {l : List α} (hu : P.underlying t = some (.slice e)) (hx : ρ x = some (sl k c l)) : aPure P ρ hp (.call ⟨.builtin .len, #[x], #[t]⟩) = some (I l.length) := by
  show aBuilt P ρ .len [x] [t] = _
  show ((ρ x).bind (aLen P t)) = _
  rw [hx]
  show aLen P t (sl k c l) = _
  unfold aLen
  rw [hu]; simp
theorem ev_len_grow {t ty e : TypeId} {x : Operand} {l : List α} {b : Nat} (hu : P.underlying t = some (.slice e)) (hx : ρ x = some (growE b l)) : aPure P ρ hp (.call ⟨.builtin .len, #[x], #[t]⟩) = some (I l.length) := by
  show aBuilt P ρ .len [x] [t] = _
  show ((ρ x).bind (aLen P t)) = _
  rw [hx]
  show aLen P t (growE b l) = _
  unfold aLen
  rw [hu]; cases l <;> rfl
theorem ev_pickT {c a b : Operand} {t : Bool} {x : AV} (h : t = true) (hc : ρ c = some (.s (.bool t))) (ha : ρ a = some x) : aPure P ρ hp (.pick c a b) = some x := by
  show (match ρ c with | some (.s (.bool t)) => if t = true then ρ a else ρ b | _ => none) = _
  rw [hc]; simp only [h, if_true]; exact ha
theorem ev_pickF {c a b : Operand} {t : Bool} {x : AV} (h : t = false) (hc : ρ c = some (.s (.bool t))) (hb : ρ b = some x) : aPure P ρ hp (.pick c a b) = some x := by
  show (match ρ c with | some (.s (.bool t)) => if t = true then ρ a else ρ b | _ => none) = _
  rw [hc]; simp only [h]; exact hb
theorem ev_quo {t ty : TypeId} {x y : Operand} {ik : IntKind} {a b q : Int} (h : quoO ik a b = some q) (hx : ρ x = some (.s (.int ik a))) (hy : ρ y = some (.s (.int ik b))) : aPure P ρ hp (.binOp .quo t x y ty) = some (.s (.int ik q)) := by
  show (match ρ x, ρ y with | some (.s vx), some (.s vy) => (aBin P .quo t vx vy).map AV.s | _, _ => none) = _
  unfold quoO at h
  rw [hx, hy]
  simp only [aBin, aShift, Bool.false_eq_true, if_false, if_true]
  split at h
  · cases h
  · rename_i hb; injection h with h; subst h; rw [if_neg hb]; rfl
theorem ev_rem {t ty : TypeId} {x y : Operand} {ik : IntKind} {a b q : Int} (h : remO a b = some q) (hx : ρ x = some (.s (.int ik a))) (hy : ρ y = some (.s (.int ik b))) : aPure P ρ hp (.binOp .rem t x y ty) = some (.s (.int ik q)) := by
  show (match ρ x, ρ y with | some (.s vx), some (.s vy) => (aBin P .rem t vx vy).map AV.s | _, _ => none) = _
  unfold remO at h
  rw [hx, hy]
  simp only [aBin, aShift, Bool.false_eq_true, if_false, if_true]
  split at h
  · cases h
  · rename_i hb; injection h with h; subst h; rw [if_neg hb]; rfl
theorem ev_shl {t ty : TypeId} {x y : Operand} {ik jk : IntKind} {a b : Int} (h : 0 ≤ b) (hx : ρ x = some (.s (.int ik a))) (hy : ρ y = some (.s (.int jk b))) : aPure P ρ hp (.binOp .shl t x y ty) = some (.s (.int ik (shlK ik a b))) := by
  show (match ρ x, ρ y with | some (.s vx), some (.s vy) => (aBin P .shl t vx vy).map AV.s | _, _ => none) = _
  rw [hx, hy]
  simp only [aBin, aShift, if_true, h]; rfl
theorem ev_shr {t ty : TypeId} {x y : Operand} {ik jk : IntKind} {a b : Int} (h : 0 ≤ b) (hx : ρ x = some (.s (.int ik a))) (hy : ρ y = some (.s (.int jk b))) : aPure P ρ hp (.binOp .shr t x y ty) = some (.s (.int ik (shrK ik a b))) := by
  show (match ρ x, ρ y with | some (.s vx), some (.s vy) => (aBin P .shr t vx vy).map AV.s | _, _ => none) = _
  rw [hx, hy]
  simp only [aBin, aShift, if_true, h]; rfl
/-- make. -/
theorem hv_make {t e : TypeId} {l x : Operand} {by_ : Nat} {i j : Int} {ik jk : IntKind} {z : α} {r : List α} (h : makeO by_ z i j = some r) (hu : P.underlying t = some (.slice e)) (hs : sizeT P e = some k) (hb : bytesT P e = some by_) (hz : zeroT P e = some (c z)) (hk : 0 < k) (hck : (c z).length = k) (hl : ρ l = some (.s (.int ik i))) (hx : ρ x = some (.s (.int jk j))) :
    aHeap P ρ hp nx (.makeSlice t l x) = some (.own nx r.length, (nx, ⟨e, k, flat c r⟩) :: hp, nx + 1) := by
  unfold makeO at h
  split at h
  · rename_i hh
    injection h with h; subst h
    show (match ρ l, ρ x with | some l, some c => aMake P t hp nx l c | _, _ => none) = _
    rw [hl, hx]
    simp only [aMake, hu, hs, hb, hz]
    rw [if_pos ⟨hk, hck⟩, if_pos hh, flat_replicate, List.length_replicate]
  · cases h
/-- append to nil or an own row. -/
theorem app_new {m : List α} {by_ : Nat} {z : List AV} {t e : TypeId} {hp' : List (Nat × Blk)} {s x : AV} {l r : List α} (h : appO by_ l m = some r) (h0 : 0 < r.length ∨ s.isOwn = true) (hu : P.underlying t = some (.slice e)) (hs : sizeT P e = some k) (hb : bytesT P e = some by_) (hz : zeroT P e = some z) (hk : 0 < k) (hck : z.length = k)
    (ho : aOld e k hp s = some (l.length, flat c l, hp')) (hn : aNew k hp x = some (m.length, flat c m)) : aAppend P t hp nx s x = some (.own nx r.length, (nx, ⟨e, k, flat c r⟩) :: hp', nx + 1) := by
  unfold appO at h
  split at h
  · rename_i hh
    injection h with h; subst h
    rw [List.length_append] at h0
    unfold aAppend
    simp only [hu, hs, hb, hz, ho, hn]
    rw [if_pos ⟨hk, hck⟩, if_pos ⟨hh.1, hh.2, h0⟩, flat_append, List.length_append]
  · cases h
theorem new_sl (hc : ∀ x, (c x).length = k) (m : List α) : aNew k hp (sl k c m) = some (m.length, flat c m) := by
  show (if k = k then some ((m.map c).length, (m.map c).flatten) else none) = _
  rw [if_pos rfl, List.length_map]; rfl
theorem new_own {b N : Nat} {ty : TypeId} (hc : ∀ x, (c x).length = k) (h1 : ∀ x, (c x).all AV.one = true) (m : List α) (hn : N = m.length) (h : get b hp = some ⟨ty, k, flat c m⟩) : aNew k hp (.own b N) = some (m.length, flat c m) := by
  subst hn
  show (match get b hp with | some q => if q.sz = k then (if q.cs.length = m.length * k then (if q.cs.all AV.one = true then some (m.length, q.cs) else none) else none) else none | none => none) = _
  rw [h]; simp only [flat_length hc, if_true, flat_all AV.one h1]
theorem new_grow {b : Nat} {ty : TypeId} (hc : ∀ x, (c x).length = k) (h1 : ∀ x, (c x).all AV.one = true) (m : List α) (h : m ≠ [] → get b hp = some ⟨ty, k, flat c m⟩) : aNew k hp (growE b m) = some (m.length, flat c m) := by
  cases m with
  | nil => rfl
  | cons x m => exact new_own hc h1 (x :: m) rfl (h (by simp))
theorem old_nil {e : TypeId} : aOld e k hp Nl = some (([] : List α).length, flat c [], hp) := rfl
theorem old_own {b N : Nat} {e : TypeId} {hp' : List (Nat × Blk)} (hc : ∀ x, (c x).length = k) (l : List α) (hn : N = l.length) (h : get b hp = some ⟨e, k, flat c l⟩) (hd : delB b hp = hp') : aOld e k hp (.own b N) = some (l.length, flat c l, hp') := by
  subst hn
  show (match get b hp with | some q => if q.ty = e ∧ q.sz = k then (if q.cs.length = l.length * k then some (l.length, q.cs, delB b hp) else none) else none | none => none) = _
  rw [h]; simp only [flat_length hc, and_self, if_true, hd]
theorem old_grow {b : Nat} {e : TypeId} {A T : List (Nat × Blk)} (hc : ∀ x, (c x).length = k) (l : List α) (hh : hp = A ++ growH b ⟨e, k, flat c l⟩ l T) (ha : get b (A ++ [(b, ⟨e, k, flat c l⟩)]) = some ⟨e, k, flat c l⟩) (hd : delB b (A ++ T) = A ++ T) (hdA : delB b A = A) : aOld e k hp (growE b l) = some (l.length, flat c l, A ++ T) := by
  cases l with
  | nil => rw [hh]; rfl
  | cons x l =>
    refine old_own hc (x :: l) rfl ?_ ?_
    · rw [hh]
      show get b (A ++ (b, _) :: T) = _
      rw [get_append] at ha ⊢
      cases hA : get b A with
      | some q => rw [hA] at ha; exact ha
      | none => show (if b = b then _ else _) = _; rw [if_pos rfl]
    · rw [hh]
      show delB b (A ++ (b, _) :: T) = _
      have : ∀ (A : List (Nat × Blk)), delB b A = A → delB b (A ++ T) = A ++ T → ∀ q, delB b (A ++ (b, q) :: T) = A ++ T := by
        intro A
        induction A with
        | nil =>
          intro _ h q
          show (if b = b then delB b T else _) = _
          rw [if_pos rfl]; exact h
        | cons p A ih =>
          obtain ⟨d, y⟩ := p
          intro h1 h2 q
          by_cases e : b = d
          · exfalso
            have h3 : delB b A = (d, y) :: A := by
              have h1' : (if b = d then delB b A else (d, y) :: delB b A) = (d, y) :: A := h1
              rw [if_pos e] at h1'; exact h1'
            have h4 : ∀ (l : List (Nat × Blk)), (delB b l).length ≤ l.length := by
              intro l
              induction l with
              | nil => exact Nat.le_refl _
              | cons p l ih =>
                obtain ⟨d', y'⟩ := p
                show (if b = d' then delB b l else (d', y') :: delB b l).length ≤ _
                split
                · simp; omega
                · simp; omega
            have := h4 A
            rw [h3] at this; simp at this; omega
          · have h1' : (if b = d then delB b A else (d, y) :: delB b A) = (d, y) :: A := h1
            have h2' : (if b = d then delB b (A ++ T) else (d, y) :: delB b (A ++ T)) = (d, y) :: (A ++ T) := h2
            rw [if_neg e] at h1' h2'
            show (if b = d then delB b (A ++ (b, q) :: T) else (d, y) :: delB b (A ++ (b, q) :: T)) = _
            rw [if_neg e, ih (List.cons.inj h1').2 (List.cons.inj h2').2 q]; rfl
      exact this A hdA hd _
theorem hv_append {t : TypeId} {s x : Operand} {sv xv : AV} {r : AV} {hp' : List (Nat × Blk)} {nx' : Nat} (hs : ρ s = some sv) (hx : ρ x = some xv) (h : aAppend P t hp nx sv xv = some (r, hp', nx')) : aHeap P ρ hp nx (.call ⟨.builtin .append, #[s, x], #[t, t]⟩) = some (r, hp', nx') := by
  show (if t = t then (match ρ s, ρ x with | some s, some x => aAppend P t hp nx s x | _, _ => none) else none) = _
  rw [if_pos rfl, hs, hx]; exact h
theorem pure_store {t : TypeId} {x v : Operand} : aPure P ρ hp (.store t x v) = none := rfl
theorem pure_append {l : List Operand} {ts : List TypeId} : aPure P ρ hp (.call ⟨.builtin .append, l.toArray, ts.toArray⟩) = none := rfl
theorem pure_make {t : TypeId} {l x : Operand} : aPure P ρ hp (.makeSlice t l x) = none := rfl
end
end Go.Proofs.Ytgggekjhfdkgkaa.Ab
