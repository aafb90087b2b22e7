/- Maps in the printed proofs. -/
import Derived.Test.YtdfokoapenhalaaDoorAbX
import Derived.ChangeKeysEq
namespace Go.Proofs.YtdfokoapenhalaaDoor.Ab
open Go Go.RowKit Go.Shelf
theorem all_c {α : Type} {p : α → Bool} {x : α} {l : List α} (h : p x = true) (hl : l.all p = true) : (x :: l).all p = true := by rw [List.all_cons, h, hl]; rfl
/-- A map's entries: key and element. -/
def cM {κ β : Type} (a : κ → List AV) (c : β → List AV) (p : κ × β) : List AV := a p.1 ++ c p.2
def findM {κ β : Type} [BEq κ] (l : List (κ × β)) (k : κ) : Option β := match l with
  | [] => none
  | (a, v) :: l => if (k == a) = true then some v else findM l k
def getM {κ β : Type} [BEq κ] (l : List (κ × β)) (k : κ) (z : β) : β := (findM l k).getD z
def hasM {κ β : Type} [BEq κ] (l : List (κ × β)) (k : κ) : Bool := (findM l k).isSome
def putM {κ β : Type} [BEq κ] (l : List (κ × β)) (k : κ) (y : β) : List (κ × β) := match l with
  | [] => [(k, y)]
  | (a, v) :: l => if (k == a) = true then (a, y) :: l else (a, v) :: putM l k y
theorem same_int {ik : IntKind} (a b : Int) : Instr.sameNow (.int ik) (.int ik a) (.int ik b) = some (a == b) := by simp [Instr.sameNow]
theorem same_str (a b : ByteArray) : Instr.sameNow .string (.string a) (.string b) = some (a == b) := rfl
section
variable {P : Program} {ρ : Operand → Option AV} {hp : List (Nat × Blk)} {nx : Nat} {κ β : Type} [BEq κ] {kv : κ → Value} {kc : κ → List AV} {c : β → List AV} {f : β → AV} {d : TypeDesc}
theorem mFind_flat (hs : ∀ a b, Instr.sameNow d (kv a) (kv b) = some (a == b)) (hk : ∀ x, kc x = [.s (kv x)]) (hf : ∀ x, c x = [f x]) (k : κ) : ∀ (l : List (κ × β)) (i : Nat),
    (findM l k = none ∧ mFind d (kv k) i (flat (cM kc c) l) = some none) ∨ ∃ j v, findM l k = some v ∧ mFind d (kv k) i (flat (cM kc c) l) = some (some (j, f v))
  | [], i => .inl ⟨rfl, rfl⟩
  | (a, v) :: l, i => by
    have e : flat (cM kc c) ((a, v) :: l) = .s (kv a) :: f v :: flat (cM kc c) l := by
      unfold flat; rw [List.map_cons, List.flatten_cons]; unfold cM; rw [hk, hf]; rfl
    rw [e]
    unfold findM mFind
    rw [hs]
    cases h : (k == a)
    · simp only [Bool.false_eq_true, if_false]
      exact mFind_flat hs hk hf k l (i + 1)
    · simp only [if_true]
      exact .inr ⟨i, v, rfl, rfl⟩
theorem mPut_flat (hs : ∀ a b, Instr.sameNow d (kv a) (kv b) = some (a == b)) (hk : ∀ x, kc x = [.s (kv x)]) (hf : ∀ x, c x = [f x]) (k : κ) (y : β) : ∀ (l : List (κ × β)), mPut d (kv k) (f y) (flat (cM kc c) l) = some (flat (cM kc c) (putM l k y))
  | [] => by
    unfold putM flat; simp only [List.map_nil, List.flatten_nil, mPut, List.map_cons, List.flatten_cons, cM, hk, hf]; rfl
  | (a, v) :: l => by
    have e : ∀ (a : κ) (v : β) (l : List (κ × β)), flat (cM kc c) ((a, v) :: l) = .s (kv a) :: f v :: flat (cM kc c) l := fun a v l => by
      unfold flat; rw [List.map_cons, List.flatten_cons]; unfold cM; rw [hk, hf]; rfl
    rw [e]
    unfold putM mPut
    rw [hs]
    cases h : (k == a)
    · simp only [Bool.false_eq_true, if_false]
      rw [mPut_flat hs hk hf k y l, e]; rfl
    · simp only [if_true]
      rw [e]
/-- A map's element. -/
theorem ev_look {t ty kt et b : Nat} {mo x : Operand} {l : List (κ × β)} {k : κ} {z : β} {ok : Bool} (hs : ∀ a b, Instr.sameNow d (kv a) (kv b) = some (a == b)) (hk : ∀ x, kc x = [.s (kv x)]) (hf : ∀ x, c x = [f x])
    (hkb : isKeyB d (kv k) = true) (ht : P.underlying t = some (.map kt et)) (hd : P.underlying kt = some d) (hz : (zeroV P et).map AV.s = some (f z)) (hm : ρ mo = some (.mp b)) (hx : ρ x = some (.s (kv k))) (hb : get b hp = some ⟨ty, 2, flat (cM kc c) l⟩) :
    aPure P ρ hp (.lookup t mo x ok) = some (if ok = true then .tup [f (getM l k z), B (hasM l k)] else f (getM l k z)) := by
  show aLook P hp t ok (ρ mo) (ρ x) = _
  rw [hm, hx]
  obtain ⟨zv, hz1, hz2⟩ := map_some' hz
  unfold aLook
  simp only [ht, hd, hz1, hb, hkb, if_true]
  rcases mFind_flat hs hk hf k l 0 with ⟨h1, h2⟩ | ⟨j, v, h1, h2⟩
  · rw [h2]; unfold getM hasM; rw [h1]; simp only [Option.getD_none, Option.isSome_none]; rw [hz2]
  · rw [h2]; unfold getM hasM; rw [h1]; simp only [Option.getD_some, Option.isSome_some]
/-- A map's element, written. -/
theorem hv_mput {t ty kt et b : Nat} {mo x v : Operand} {l : List (κ × β)} {k : κ} {y : β} (hs : ∀ a b, Instr.sameNow d (kv a) (kv b) = some (a == b)) (hk : ∀ x, kc x = [.s (kv x)]) (hf : ∀ x, c x = [f x])
    (hkb : isKeyB d (kv k) = true) (ht : P.underlying t = some (.map kt et)) (hd : P.underlying kt = some d) (hm : ρ mo = some (.mp b)) (hx : ρ x = some (.s (kv k))) (hv : ρ v = some (f y)) (hb : get b hp = some ⟨ty, 2, flat (cM kc c) l⟩) :
    aHeap P ρ hp nx (.mapUpdate t mo x v) = some (U, putB b ⟨ty, 2, flat (cM kc c) (putM l k y)⟩ hp, nx) := by
  show ((aMapPut P hp t (ρ mo) (ρ x) (ρ v)).map fun hp => (AV.s undef, hp, nx)) = _
  rw [hm, hx, hv]
  unfold aMapPut
  simp only [ht, hd, hb, hkb, if_true, mPut_flat hs hk hf k y l, Option.map_some]
end
theorem o_own {P : Program} {n : Nat} {st : St} {op : Op} {d : Option Tmp} (x : AV) (hp : List (Nat × Blk)) (nx : Nat) (h : aBuildOwn P (aEv st.E) st.hp st.nx op = some (x, hp, nx)) (hd : dstB n d = true) : OpTo P n op d st ((St.mk st.env hp nx).put d x) :=
  ⟨fun _ hk => .inr ⟨(x, hp, nx), h, dstB_ok hd, hk⟩⟩
theorem ev_box {P : Program} {ρ : Operand → Option AV} {hp : List (Nat × Blk)} {t : TypeId} {x : Operand} {v : AV} (hx : ρ x = some v) (hk : v.cells.all (AV.keyed 0 4) = true) : aPure P ρ hp (.box t x) = some (.ip v.cells) := by
  show aBox ρ x = _
  unfold aBox
  simp only [hx, hk, if_true]
theorem del_growT {α : Type} {b b' : Nat} {k : Blk} {l : List α} {T : List (Nat × Blk)} (h : b ≠ b') (hT : delB b T = T) : delB b (growH b' k l T) = growH b' k l T := by
  cases l with
  | nil => exact hT
  | cons x l => show (if b = b' then _ else (b', k) :: delB b T) = _; rw [if_neg h, hT]; rfl
theorem delB_app (b : Nat) (T : List (Nat × Blk)) : ∀ A : List (Nat × Blk), delB b (A ++ T) = delB b A ++ delB b T
  | [] => rfl
  | (c, x) :: A => by
    show (if b = c then delB b (A ++ T) else (c, x) :: delB b (A ++ T)) = (if b = c then delB b A else (c, x) :: delB b A) ++ delB b T
    rw [delB_app b T A]
    split <;> rfl
theorem del_app {b : Nat} {A T : List (Nat × Blk)} (hA : delB b A = A) (hT : delB b T = T) : delB b (A ++ T) = A ++ T := by rw [delB_app, hA, hT]
/-- What a copy into a row leaves. -/
def copyL {α : Type} (l m : List α) : List α := m.take (min m.length l.length) ++ l.drop (min m.length l.length)
section
variable {P : Program} {ρ : Operand → Option AV} {hp : List (Nat × Blk)} {nx k : Nat} {α : Type} {c : α → List AV}
/-- An element of an array in memory that nobody writes. -/
theorem ev_idx_ip {t e : TypeId} {x i : Operand} {l : List α} {N : Nat} {ik : IntKind} {j : Int} {a : α} (h : getI l j = some a) (hl : l.length = N) (hu : P.underlying t = some (.array N e)) (hs : sizeT P e = some k) (hx : ρ x = some (.ip (flat c l))) (hi : ρ i = some (.s (.int ik j))) :
    aPure P ρ hp (.indexAddr t x i) = some (.ip ((flat c l).drop (j.toNat * k))) := by
  obtain ⟨h0, h1⟩ := getI_lt h
  show ((ρ x).bind fun x => (ρ i).bind fun i => aIndexAt P t x i) = _
  rw [hx, hi]
  simp [aIndexAt, hu, hs, h0, hl ▸ h1]
theorem aPart_drop {P : Program} {t : TypeId} {cs : List AV} {o : Nat} {y : AV} (h : aPart P t cs o = some y) : aPart P t (cs.drop o) 0 = some y := by
  unfold aPart at h ⊢
  cases hu : P.underlying t with
  | none => rw [hu] at h; cases h
  | some d =>
    rw [hu] at h
    simp only at h ⊢
    by_cases hr : d.isRow = true
    · rw [if_pos hr] at h ⊢
      cases hk : sizeT P t with
      | none => rw [hk] at h; cases h
      | some k =>
        rw [hk] at h
        simp only at h ⊢
        by_cases hle : o + k ≤ cs.length
        · rw [if_pos hle] at h
          by_cases h0 : o ≤ cs.length
          · rw [if_pos (by rw [List.length_drop]; omega), List.drop_drop]; exact h
          · omega
        · rw [if_neg hle] at h; cases h
    · rw [if_neg hr] at h ⊢
      rw [List.getElem?_drop]; exact h
theorem ev_load_ipx {t : TypeId} {x : Operand} {l : List α} {j : Int} {a : α} {y : AV} (hc : ∀ x, (c x).length = k) (h : getI l j = some a) (hx : ρ x = some (.ip ((flat c l).drop (j.toNat * k)))) (hy : aPart P t (c a) 0 = some y) :
    aPure P ρ hp (.load t x) = some y := by
  show ((ρ x).bind (aLoad P t hp)) = _
  rw [hx]
  have := part_flat (P := P) (t := t) hc (getI_some h).2 hy
  rw [Nat.add_zero] at this
  exact aPart_drop this
/-- A whole array in memory that nobody writes. -/
theorem ev_load_iparr {t : TypeId} {dsc : TypeDesc} {x : Operand} {l : List α} {s : Nat} (hc : ∀ x, (c x).length = k) (hl : l.length * k = s) (hu : P.underlying t = some dsc) (hr : dsc.isRow = true) (hs : sizeT P t = some s) (hx : ρ x = some (.ip (flat c l))) :
    aPure P ρ hp (.load t x) = some (.agg (flat c l)) := by
  have hlen := flat_length hc l
  show ((ρ x).bind (aLoad P t hp)) = _
  rw [hx]
  show aPart P t (flat c l) 0 = _
  unfold aPart
  simp only [hu, hr, if_true, hs]
  rw [if_pos (by omega), List.drop_zero, List.take_of_length_le (by omega)]
/-- A copy into an array that is a variable. -/
theorem hv_copy {t e ty : TypeId} {s x : Operand} {l m : List α} {b N : Nat} (hc : ∀ x, (c x).length = 1) (h1 : ∀ x, (c x).all AV.one = true) (hl : l.length = N) (hu : P.underlying t = some (.slice e)) (hs : sizeT P e = some 1) (hx : ρ s = some (.asl b N)) (hy : ρ x = some (sl 1 c m)) (hb : get b hp = some ⟨ty, 0, flat c l⟩) :
    aHeap P ρ hp nx (.call ⟨.builtin .copy, #[s, x], #[t, t]⟩) = some (.int ((min m.length N : Nat) : Int), putB b ⟨ty, 0, flat c (copyL l m)⟩ hp, nx) := by
  show (if t = t then (match ρ s, ρ x with | some s, some x => (aCopy P t hp s x).map fun r => (AV.int r.1, r.2, nx) | _, _ => none) else none) = _
  rw [if_pos rfl, hx, hy]
  have hlen := flat_length hc l
  have hall : ((m.map c).flatten.all AV.one) = true := by
    rw [List.all_flatten, List.all_map]; exact List.all_eq_true.2 fun x _ => h1 x
  unfold aCopy
  simp only [hu, hb]
  rw [if_pos ⟨hs, by omega, hall⟩]
  have e1 : ((m.map c).take (min (m.map c).length N)).flatten ++ (flat c l).drop (min (m.map c).length N) = flat c (copyL l m) := by
    unfold copyL
    rw [← List.map_take, List.length_map, ← hl]
    have := flat_drop hc l (min m.length l.length)
    rw [Nat.mul_one] at this
    rw [this]
    unfold flat
    rw [List.map_append, List.flatten_append]
  simp only [Option.map_some]
  rw [e1, List.length_map]
end
theorem rep_flat {α : Type} {val : α → Value} {c : α → List AV} {w : World} {S : Nat → Prop} {m : Nat → Nat × Nat} {nx : Nat} {u : Value} (hc : ∀ a, c a = [.s (val a)]) (x : List α) (h : Rep w S m nx (.agg (flat c x)) u) : u = .agg (x.map val).toArray := by
  have e : flat c x = (x.map val).map AV.s := by
    unfold flat
    rw [show c = fun a => [AV.s (val a)] from funext hc, List.map_map]
    clear h
    induction x with
    | nil => rfl
    | cons a x ih => simp [ih]
  rw [e] at h
  cases h with
  | agg vs hl hr =>
    congr 1
    apply Array.ext_getElem?
    intro j
    rcases Nat.lt_or_ge j vs.size with hj | hj
    · have hj' : j < (x.map val).length := by rw [← hl] at hj; simpa using hj
      have := hr j (.s ((x.map val)[j])) vs[j] (by rw [List.getElem?_map, List.getElem?_eq_getElem hj']; rfl) (Array.getElem?_eq_getElem hj)
      rw [Array.getElem?_eq_getElem hj, List.getElem?_toArray, List.getElem?_eq_getElem hj']
      generalize (x.map val)[j] = q at this
      cases this; rfl
    · rw [Array.getElem?_eq_none hj, List.getElem?_toArray, List.getElem?_eq_none (by rw [← hl] at hj; simpa using hj)]
section
variable {P : Program} {α : Type} [DecidableEq α] {val : α → Value} {c : α → List AV}
theorem eq_items {d : Nat} {e : TypeId} (he : P.plainKey e = true) (hv : ∀ a b w, (Op.equalIn (d + 1) e (val a) (val b)).run P w = .ok (decide (a = b)) w) (x y : List α) (w : World) : ∀ (is : List Nat), (∀ i ∈ is, i < x.length ∧ i < y.length) →
    (Op.eqItems (d + 1) e 1 (x.map val).toArray (y.map val).toArray is).run P w = .ok (is.all fun i => decide (x[i]? = y[i]?)) w
  | [], _ => by simp [Op.eqItems]
  | i :: is, h => by
    obtain ⟨h1, h2⟩ := h i (by simp)
    have p1 := run_part_plain (P := P) w he (xs := (x.map val).toArray) (off := i * 1) (v := val x[i]) (by simp [h1])
    have p2 := run_part_plain (P := P) w he (xs := (y.map val).toArray) (off := i * 1) (v := val y[i]) (by simp [h2])
    have ih := eq_items he hv x y w is (fun j hj => h j (by simp [hj]))
    simp only [Op.eqItems, Sem.run_bind, p1, p2, hv, Result.andThen_ok]
    rw [List.all_cons, List.getElem?_eq_getElem h1, List.getElem?_eq_getElem h2]
    by_cases e : x[i] = y[i]
    · simp [e, ih]
    · simp [e]
/-- Two arrays of plain values, compared. -/
theorem eql_arr {t e : TypeId} {n : Nat} {x y : List α} (hc : ∀ a, c a = [.s (val a)]) (hu : P.underlying t = some (.array n e)) (he : P.plainKey e = true) (h1 : P.cellsOf e = 1) (hg : P.eqGuardType P.depth t = false) (hv : ∀ a b w, (Op.equalIn 9999 e (val a) (val b)).run P w = .ok (decide (a = b)) w) (hx : x.length = n) (hy : y.length = n) :
    EqOk P .eql t (.agg (flat c x)) (.agg (flat c y)) (decide (x = y)) := by
  intro w S m nx u v p q hu' hv'
  have e1 := rep_flat hc x hu'
  have e2 := rep_flat hc y hv'
  subst e1; subst e2
  have hi : ∃ i, P.info? e = some i := by
    unfold Program.plainKey at he
    cases hq : P.underlying e with
    | none => simp [hq] at he
    | some d => exact info_of_underlying hq
  obtain ⟨i, hi⟩ := hi
  have hall : ((List.range n).all fun i => decide (x[i]? = y[i]?)) = decide (x = y) := by
    rw [Bool.eq_iff_iff, List.all_eq_true, decide_eq_true_iff]
    constructor
    · intro h
      apply List.ext_getElem?
      intro j
      rcases Nat.lt_or_ge j n with hj | hj
      · exact of_decide_eq_true (h j (List.mem_range.2 hj))
      · rw [List.getElem?_eq_none (by omega), List.getElem?_eq_none (by omega)]
    · intro h; subst h; simp
  rw [Sem.run_bind, run_eqGuard_agg w .eql t p q _ _ hg]
  simp only [Result.andThen_ok]
  rw [run_eql_struct, run_equalIn_array w 9999 _ _ hu hi, h1, eq_items (d := 9998) he hv x y w (List.range n) (fun i hi => by have := List.mem_range.1 hi; omega), hall]
  rfl
theorem eqv_bool {e : TypeId} (h : P.underlying e = some .bool) (a b : Bool) (w : World) : (Op.equalIn 9999 e (.bool a) (.bool b)).run P w = .ok (decide (a = b)) w := by
  rw [run_equalIn_bool' w 9998 e a b h]; congr 1
theorem eqv_int {e : TypeId} {k : IntKind} (h : P.underlying e = some (.int k)) (a b : Int) (w : World) : (Op.equalIn 9999 e (.int k a) (.int k b)).run P w = .ok (decide (a = b)) w := by
  rw [run_equalIn_int w 9998 e k k a b h]; congr 1
end
/-- The bounds of a slice expression are in order. -/
def slcO (i j : Int) (n : Nat) : Option Unit := if 0 ≤ i ∧ i ≤ j ∧ j ≤ n then some () else none
theorem slcO_some {i j : Int} {n : Nat} {u : Unit} (h : slcO i j n = some u) : 0 ≤ i ∧ i ≤ j ∧ j ≤ n := by
  unfold slcO at h
  split at h
  · assumption
  · cases h
theorem ev_slice {P : Program} {ρ : Operand → Option AV} {hp : List (Nat × Blk)} {α : Type} {c : α → List AV} {k : Nat} {t e : TypeId} {x : Operand} {lo hi : Option Operand} {l : List α} {i j : Int} (h : 0 ≤ i ∧ i ≤ j ∧ j ≤ l.length) (hu : P.underlying t = some (.slice e)) (hs : sizeT P e = some k) (hx : ρ x = some (sl k c l))
    (hlo : (lo = none ∧ i = 0) ∨ ∃ o ik, lo = some o ∧ ρ o = some (.s (.int ik i))) (hhi : (hi = none ∧ j = l.length) ∨ ∃ o ik, hi = some o ∧ ρ o = some (.s (.int ik j))) :
    aPure P ρ hp (.slice t x lo hi none) = some (sl k c ((l.drop i.toNat).take (j.toNat - i.toNat))) := by
  obtain ⟨h0, h1, h2⟩ := h
  show aSl P t (ρ x) (lo.map ρ) (hi.map ρ) = _
  have e1 : boundV 0 (lo.map ρ) = some i.toNat := by
    rcases hlo with ⟨rfl, rfl⟩ | ⟨o, ik, rfl, ho⟩
    · rfl
    · simp only [Option.map_some, ho]; show (if 0 ≤ i then some i.toNat else none) = _; rw [if_pos h0]
  have e2 : boundV (l.map c).length (hi.map ρ) = some j.toNat := by
    rcases hhi with ⟨rfl, rfl⟩ | ⟨o, ik, rfl, ho⟩
    · show some (l.map c).length = _; simp
    · simp only [Option.map_some, ho]; show (if 0 ≤ j then some j.toNat else none) = _; rw [if_pos (by omega)]
  rw [hx]
  unfold aSl
  simp only [hu, e1, e2]
  rw [if_pos ⟨hs, by omega, by rw [List.length_map]; omega⟩, ← List.map_drop, ← List.map_take]
end Go.Proofs.YtdfokoapenhalaaDoor.Ab
