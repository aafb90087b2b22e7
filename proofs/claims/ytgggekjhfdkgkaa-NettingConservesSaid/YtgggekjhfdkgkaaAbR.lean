/- Abstract runs by steps: loops as plain functions, ways that meet, rows of plain values. -/
import Derived.Test.YtgggekjhfdkgkaaAbQ
namespace Go.Proofs.Ytgggekjhfdkgkaa.Ab
open Go Go.RowKit Go.Shelf

/-- A loop as a plain function: a round goes on with a state or ends with a result; none: out of what the function is told for. -/
def loopN {σ ρ : Type} (body : σ → Option (σ ⊕ ρ)) : Nat → σ → Option ρ
  | 0, _ => none
  | m + 1, s => match body s with
    | some (.inl s') => loopN body m s'
    | some (.inr r) => some r
    | none => none
theorem loopN_more {σ ρ : Type} {body : σ → Option (σ ⊕ ρ)} : ∀ {m : Nat} {s : σ} {r : ρ}, loopN body m s = some r → ∀ k, loopN body (m + k) s = some r
  | 0, s, r, h, k => by cases h
  | m + 1, s, r, h, k => by
    rw [show m + 1 + k = (m + k) + 1 by omega]
    unfold loopN at h ⊢
    cases hb : body s with
    | none => rw [hb] at h; cases h
    | some o =>
      rw [hb] at h
      cases o with
      | inl s' => exact loopN_more h k
      | inr r' => exact h
/-- How many rounds a loop is told for. -/
def rounds : Nat := 1000000000000000000
def loopO {σ ρ : Type} (body : σ → Option (σ ⊕ ρ)) (s : σ) : Option ρ := loopN body rounds s
theorem loopO_of {σ ρ : Type} {body : σ → Option (σ ⊕ ρ)} {m : Nat} {s : σ} {r : ρ} (h : loopN body m s = some r) (hm : m ≤ rounds) : loopO body s = some r := by
  have := loopN_more h (rounds - m)
  rw [show m + (rounds - m) = rounds by omega] at this; exact this
theorem loopO_some {σ ρ : Type} {body : σ → Option (σ ⊕ ρ)} {s : σ} {r : ρ} (h : loopO body s = some r) : ∃ m, loopN body m s = some r := ⟨rounds, h⟩
/-- What comes behind a statement that may also end the function. -/
def bindF {ρ τ : Type} (x : Option (ρ ⊕ τ)) (k : ρ → Option τ) : Option τ := match x with
  | some (.inl e) => k e
  | some (.inr v) => some v
  | none => none
/-- An element by a Go index. -/
def getI {α : Type} (l : List α) (i : Int) : Option α := if 0 ≤ i then l[i.toNat]? else none
theorem getI_some {α : Type} {l : List α} {i : Int} {x : α} (h : getI l i = some x) : 0 ≤ i ∧ l[i.toNat]? = some x := by
  unfold getI at h
  split at h
  · rename_i h0; exact ⟨h0, h⟩
  · cases h
theorem getI_lt {α : Type} {l : List α} {i : Int} {x : α} (h : getI l i = some x) : 0 ≤ i ∧ i < l.length := by
  obtain ⟨h0, h1⟩ := getI_some h
  have := (List.getElem?_eq_some_iff.1 h1).1
  omega
/-- An element put in place of another one. -/
def setI {α : Type} (l : List α) (i : Int) (x : α) : List α := l.set i.toNat x
/-- A list of a given length. -/
def lenO {α : Type} (l : List α) (n : Nat) : Option Unit := if l.length = n then some () else none
theorem lenO_some {α : Type} {l : List α} {n : Nat} {u : Unit} (h : lenO l n = some u) : l.length = n := by
  unfold lenO at h
  split at h
  · assumption
  · cases h
/-- An index in range. -/
def rngO (i : Int) (n : Nat) : Option Unit := if 0 ≤ i ∧ i < n then some () else none
theorem rngO_some {i : Int} {n : Nat} {u : Unit} (h : rngO i n = some u) : 0 ≤ i ∧ i < n := by
  unfold rngO at h
  split at h
  · assumption
  · cases h
theorem leB {a b : Nat} (h : Nat.ble a b = true) : a ≤ b := Nat.le_of_ble_eq_true h
/-- append, within what a machine can hold. -/
def appO {α : Type} (b : Nat) (l m : List α) : Option (List α) := if (l.length + m.length) * b ≤ 140737488355328 ∧ l.length + m.length ≤ 1152921504606846976 then some (l ++ m) else none
/-- make, within what a machine can hold. -/
def makeO {α : Type} (b : Nat) (z : α) (n c : Int) : Option (List α) := if 0 ≤ n ∧ n ≤ c ∧ (b : Int) * c ≤ 140737488355328 ∧ c ≤ 1152921504606846976 then some (List.replicate n.toNat z) else none
theorem appO_pos {α : Type} {b : Nat} {l m : List α} {x : α} {r : List α} (h : appO b l (x :: m) = some r) : 0 < r.length := by
  unfold appO at h
  split at h
  · injection h with h; subst h; simp; omega
  · cases h
theorem ne_cons {α : Type} {l : List α} (h : 0 < l.length) : ∃ x m, l = x :: m := by
  cases l with
  | nil => simp at h
  | cons x m => exact ⟨x, m, rfl⟩
def andK (k : IntKind) (a b : Int) : Int := k.wrap ((BitVec.ofInt k.bits a &&& BitVec.ofInt k.bits b).toNat : Int)
def orK (k : IntKind) (a b : Int) : Int := k.wrap ((BitVec.ofInt k.bits a ||| BitVec.ofInt k.bits b).toNat : Int)
def xorK (k : IntKind) (a b : Int) : Int := k.wrap ((BitVec.ofInt k.bits a ^^^ BitVec.ofInt k.bits b).toNat : Int)
def shlK (k : IntKind) (a b : Int) : Int := k.wrap (a * 2 ^ min b.toNat k.bits)
def shrK (k : IntKind) (a b : Int) : Int := a.fdiv (2 ^ min b.toNat k.bits)
def nnO (b : Int) : Option Unit := if 0 ≤ b then some () else none
theorem nnO_some {b : Int} {u : Unit} (h : nnO b = some u) : 0 ≤ b := by
  unfold nnO at h
  split at h
  · assumption
  · cases h
def quoO (k : IntKind) (a b : Int) : Option Int := if b = 0 then none else some (k.wrap (a.tdiv b))
def remO (a b : Int) : Option Int := if b = 0 then none else some (a.tmod b)
/-- Some of the blocks. -/
def keepH : List Nat → List (Nat × Blk) → List (Nat × Blk)
  | [], _ => []
  | k :: ks, hp => match get k hp with
    | some x => (k, x) :: keepH ks hp
    | none => keepH ks hp
theorem get_keepH (hp : List (Nat × Blk)) (t : Nat) (x : Blk) : ∀ ks, get t (keepH ks hp) = some x → get t hp = some x
  | [], h => by cases h
  | k :: ks, h => by
    unfold keepH at h
    split at h
    · rename_i y hy
      have h' : (if t = k then some y else get t (keepH ks hp)) = some x := h
      split at h'
      · rename_i e; subst e; rw [hy]; exact h'
      · exact get_keepH hp t x ks h'
    · exact get_keepH hp t x ks h
section
variable {P : Program} {n lo : Nat} {ops : Array Oper} {K : St → Prop} {st : St} {Q : Exit → St → Prop}
theorem to_keep2 (ks bs : List Nat) {env' : List (Nat × AV)} {hp' : List (Nat × Blk)} (h : lo ≤ st.nx) (he : keepE ks st.env = env') (hh : keepH bs st.hp = hp') : St.to lo st ⟨env', hp', st.nx⟩ := by
  subst he; subst hh
  exact ⟨h, fun F a w _ ⟨hd, htn, S, m, hm, hE⟩ => ⟨hd, htn, S, m, hm.fewer (fun b k hb => get_keepH _ _ _ bs hb), fun t x hx => hE t x (get_keepE _ _ _ ks hx)⟩⟩
theorem renE_of {σ : Nat → Nat} {n : Nat} {env : List (Nat × AV)} : ∀ {l : List (Nat × AV)}, (l.map fun p => get p.1 env) = (l.map fun p => some (p.2.ren σ 4)) → (l.all fun p => p.2.keyed n 4) = true → renE σ n env l
  | [], _, _ => trivial
  | (t, x) :: l, h, hk => by
    have hk' : x.keyed n 4 = true ∧ (l.all fun p => p.2.keyed n 4) = true := Bool.and_eq_true_iff.1 hk
    exact ⟨reS (List.cons.inj h).1 hk'.1, renE_of (List.cons.inj h).2 hk'.2⟩
theorem reN {σ : Nat → Nat} {n t : Nat} {env : List (Nat × AV)} {x : AV} (h : get t env = some x) (hk : x.keyed 0 4 = true) : ∃ y, get t env = some y ∧ Sub y (x.ren σ 4) ∧ x.keyed n 4 = true := ⟨x, h, by rw [ren_none σ 4 x hk]; exact Sub.refl x, keyed_mono (Nat.zero_le n) 4 x hk⟩
theorem get_putB' (b : Nat) (k : Blk) (c : Nat) (hp : List (Nat × Blk)) : get c (putB b k hp) = if c = b then some k else get c hp := get_putB b k c hp
/-- A cell that stands for more. -/
theorem to_cell (b j : Nat) {q : Blk} {x y : AV} (h : lo ≤ st.nx) (hg : get b st.hp = some q) (hx : q.cs[j]? = some x) (hs : Sub x y) : St.to lo st ⟨st.env, putB b ⟨q.ty, q.sz, q.cs.set j y⟩ st.hp, st.nx⟩ := by
  refine ⟨h, fun F a w _ ⟨hd, htn, S, m, hm, hE⟩ => ⟨hd, htn, S, m, ⟨hm.os, hm.tape, hm.output, hm.size, hm.keep, hm.old, hm.agree, hm.nile, hm.lt, fun c k hk => ?_, fun c k hk => ?_, fun c c' k k' hk hk' he => ?_⟩, hE⟩⟩
  · rw [get_putB] at hk
    split at hk
    · rename_i e; subst e; exact hm.live c q hg
    · exact hm.live c k hk
  · rw [get_putB] at hk
    split at hk
    · rename_i e; subst e; injection hk with hk; subst hk
      obtain ⟨cur, c1, c2, c3⟩ := hm.cells c q hg
      refine ⟨cur, c1, fun i z hz => ?_, c3⟩
      have hz' : (q.cs.set j y)[i]? = some z := hz
      by_cases e : j = i
      · subst e
        rw [List.getElem?_set_self (List.getElem?_eq_some_iff.1 hx).1] at hz'
        injection hz' with hz'; subst hz'
        obtain ⟨v, y1, y2⟩ := c2 j x hx
        exact ⟨v, y1, hs _ _ _ _ _ y2⟩
      · rw [List.getElem?_set_ne e] at hz'
        exact c2 i z hz'
    · exact hm.cells c k hk
  · have hex : ∀ c k, get c (putB b ⟨q.ty, q.sz, q.cs.set j y⟩ st.hp) = some k → ∃ k', get c st.hp = some k' := fun c k hk => by
      rw [get_putB] at hk
      split at hk
      · rename_i e; exact ⟨q, by rw [e]; exact hg⟩
      · exact ⟨k, hk⟩
    obtain ⟨k1, h1⟩ := hex c k hk
    obtain ⟨k2, h2⟩ := hex c' k' hk'
    exact hm.inj c c' k1 k2 h1 h2 he
theorem to_trim {st' : St} (h : trimTo st' (some st) = some st') (hl : lo ≤ st'.nx) : St.to lo st st' := by
  obtain ⟨s, hs, ht⟩ := trim_some h hl
  injection hs with hs; subst hs; exact ht
theorem awp_loopO {σ ρ : Type} {body : σ → Option (σ ⊕ ρ)} {s0 : σ} {r : ρ} {c : Code} (h : loopO body s0 = some r) (f : σ → St) (hs : St.to lo st (f s0))
    (round : ∀ s o, body s = some o → (∀ e, o = .inr e → e = r) → ∀ K : St → Prop, (∀ s' st', o = .inl s' → St.to lo st' (f s') → K st') → awp P n lo c (aThen K Q) (f s)) : awp P n lo (.loop c) Q st := by
  obtain ⟨m0, hm0⟩ := loopO_some h
  refine awp_loop f (fun m s => loopN body m s = some r) m0 s0 hm0 hs fun m s hm K hK => ?_
  cases m with
  | zero => cases hm
  | succ m =>
    unfold loopN at hm
    cases hb : body s with
    | none => rw [hb] at hm; cases hm
    | some o =>
      rw [hb] at hm
      refine round s o hb (fun e he => ?_) K (fun s' st' he ht => ?_)
      · subst he; injection hm
      · subst he; exact hK st' m s' (Nat.lt_succ_self m) hm ht
theorem awp_cut {ρ τ : Type} {X : Option (ρ ⊕ τ)} {REST : ρ → Option τ} {fin : τ} {x y : Code} (h : bindF X REST = some fin) (g : ρ → St)
    (hx : ∀ o, X = some o → (∀ v, o = .inr v → v = fin) → ∀ K : St → Prop, (∀ e st', o = .inl e → St.to lo st' (g e) → K st') → awp P n lo x (aThen K Q) st) (hy : ∀ e, REST e = some fin → awp P n lo y Q (g e)) : awp P n lo (.seq x y) Q st := by
  cases hX : X with
  | none => rw [hX] at h; cases h
  | some o =>
    rw [hX] at h
    cases o with
    | inl e => exact awp_seq (fun K hK => hx _ hX (fun v hv => by cases hv) K (fun e' st' he ht => hK st' (g e') ht (hy e' (by injection he with he; subst he; exact h))))
    | inr v => exact awp_seq (fun K hK => hx _ hX (fun v' hv => by injection hv with hv; subst hv; injection h) K (fun e st' he => by cases he))
theorem awp_assoc {a b c : Code} (h : awp P n lo (.seq a (.seq b c)) Q st) : awp P n lo (.seq (.seq a b) c) Q st := by
  have e : ∀ (K1 K2 : St → Prop), aThen K1 (aThen K2 Q) = aThen K1 Q := fun K1 K2 => by funext e; cases e <;> rfl
  unfold awp; unfold awp; rw [e]; exact h
theorem awp_ite {α : Type} {A B : Option α} {v : α} {b : Bool} {c : Operand} {x y : Code} (h : (if b = true then A else B) = some v) (hc : aEv st.E c = some (.s (.bool b))) (ht : b = true → A = some v → awp P n lo x Q st) (hf : b = false → B = some v → awp P n lo y Q st) : awp P n lo (.cond c x y) Q st := by
  cases b with
  | true => exact awp_cond true hc (fun e => ht e h) (fun e => by cases e)
  | false => exact awp_cond false hc (fun e => by cases e) (fun e => hf e h)
theorem ite_both {α : Type} {A B : Option α} {v : α} {b : Bool} {G : Prop} (h : (if b = true then A else B) = some v) (ht : b = true → A = some v → G) (hf : b = false → B = some v → G) : G := by
  cases b with
  | true => exact ht rfl h
  | false => exact hf rfl h
theorem ret_leaf {rs : List ResultVar} {nx nx' : Nat} {r : AV} {hp' : List (Nat × Blk)} {e : Exit} (he : e = .ret ∨ e = .normal) (st' : St) (hto : St.to nx st st') (xs : List AV) (hx : aResults P st' rs = some xs) (hr : r = oneOf xs) (hn : nx ≤ nx') (hk : r.keyed nx' 4 = true) (hs : subH nx' st'.hp hp') : aRetF P rs nx r hp' nx' e st := by
  rcases he with rfl | rfl <;> exact ⟨st', hto, ⟨xs, hx, hr⟩, hn, hk, hs⟩
end
/-- The cells of a row. -/
def flat {α : Type} (c : α → List AV) (l : List α) : List AV := (l.map c).flatten
section
variable {α : Type} {c : α → List AV} {k : Nat}
theorem flat_length (hc : ∀ x, (c x).length = k) (l : List α) : (flat c l).length = l.length * k := by
  unfold flat
  rw [flatten_len k _ (fun e he => by obtain ⟨x, _, rfl⟩ := List.mem_map.1 he; exact hc x), List.length_map]
theorem flat_cons (x : α) (l : List α) : flat c (x :: l) = c x ++ flat c l := rfl
theorem flat_append (l m : List α) : flat c (l ++ m) = flat c l ++ flat c m := by unfold flat; simp
theorem flat_drop (hc : ∀ x, (c x).length = k) : ∀ (l : List α) (i : Nat), (flat c l).drop (i * k) = flat c (l.drop i)
  | l, 0 => by simp
  | [], i + 1 => by simp [flat]
  | x :: l, i + 1 => by
    rw [flat_cons, Nat.add_mul, Nat.one_mul, Nat.add_comm, ← List.drop_drop, List.drop_left' (hc x), List.drop_succ_cons]
    exact flat_drop hc l i
theorem flat_take (hc : ∀ x, (c x).length = k) : ∀ (l : List α) (i : Nat), (flat c l).take (i * k) = flat c (l.take i)
  | l, 0 => by simp [flat]
  | [], i + 1 => by simp [flat]
  | x :: l, i + 1 => by
    have e : (i + 1) * k = (c x).length + i * k := by rw [hc x, Nat.add_mul]; omega
    rw [flat_cons, e, List.take_length_add_append, flat_take hc l i, List.take_succ_cons, flat_cons]
theorem drop_at {l : List α} {i : Nat} {x : α} (h : l[i]? = some x) : l.drop i = x :: l.drop (i + 1) := by
  obtain ⟨h1, h2⟩ := List.getElem?_eq_some_iff.1 h
  rw [List.drop_eq_getElem_cons h1, h2]
/-- A part of an element of a row. -/
theorem part_flat {P : Program} {t : TypeId} (hc : ∀ x, (c x).length = k) {l : List α} {i j : Nat} {x : α} {y : AV} (hx : l[i]? = some x) (h : aPart P t (c x) j = some y) : aPart P t (flat c l) (i * k + j) = some y := by
  have hd : (flat c l).drop (i * k) = c x ++ flat c (l.drop (i + 1)) := by rw [flat_drop hc, drop_at hx, flat_cons]
  have hl : (flat c l).length = i * k + ((c x).length + (flat c (l.drop (i + 1))).length) := by
    have h1 := congrArg List.length hd
    rw [List.length_drop, List.length_append] at h1
    have h2 : i * k ≤ (flat c l).length := by
      rw [flat_length hc]; exact Nat.mul_le_mul_right k (Nat.le_of_lt (List.getElem?_eq_some_iff.1 hx).1)
    omega
  unfold aPart at h ⊢
  split at h
  · cases h
  · rename_i d hu
    by_cases hr : d.isRow = true
    · rw [if_pos hr] at h ⊢
      cases hs : sizeT P t with
      | none => rw [hs] at h; cases h
      | some s =>
        rw [hs] at h
        simp only at h ⊢
        by_cases hle : j + s ≤ (c x).length
        · rw [if_pos hle] at h
          injection h with h
          rw [if_pos (by omega), ← h, ← List.drop_drop, hd, List.drop_append_of_le_length (by omega), List.take_append_of_le_length (by rw [List.length_drop]; omega)]
        · rw [if_neg hle] at h; cases h
    · rw [if_neg hr] at h ⊢
      have hj := (List.getElem?_eq_some_iff.1 h).1
      rw [← List.getElem?_drop, hd, List.getElem?_append_left hj]; exact h
/-- A part of an element of a row is written. -/
theorem flat_put (hc : ∀ x, (c x).length = k) {l : List α} {i j : Nat} {x y : α} {v : List AV} (hx : l[i]? = some x) (hj : j + v.length ≤ k) (hy : c y = (c x).take j ++ v ++ (c x).drop (j + v.length)) :
    (flat c l).take (i * k + j) ++ v ++ (flat c l).drop (i * k + j + v.length) = flat c (l.set i y) := by
  have hil := (List.getElem?_eq_some_iff.1 hx).1
  have hd : (flat c l).drop (i * k) = c x ++ flat c (l.drop (i + 1)) := by rw [flat_drop hc, drop_at hx, flat_cons]
  have hset : l.set i y = l.take i ++ y :: l.drop (i + 1) := by rw [List.set_eq_take_append_cons_drop, if_pos hil]
  rw [hset, flat_append, flat_cons, hy, List.take_add, flat_take hc, hd, List.take_append_of_le_length (by rw [hc]; omega), Nat.add_assoc, ← List.drop_drop, hd, List.drop_append_of_le_length (by rw [hc]; omega)]
  simp only [List.append_assoc]
theorem flat_all (p : AV → Bool) (h : ∀ x, (c x).all p = true) (l : List α) : (flat c l).all p = true := by
  unfold flat
  rw [List.all_flatten, List.all_map]
  exact List.all_eq_true.2 fun x _ => h x
theorem flat_replicate (z : α) (n : Nat) : (List.replicate n (c z)).flatten = flat c (List.replicate n z) := by unfold flat; rw [List.map_replicate]
end
/-- A slice that may be nil and is otherwise an own row. -/
def growE {α : Type} (b : Nat) (l : List α) : AV := match l with
  | [] => .s (.slice none 0 0)
  | _ :: _ => .own b l.length
def growH {α : Type} (b : Nat) (k : Blk) (l : List α) (hp : List (Nat × Blk)) : List (Nat × Blk) := match l with
  | [] => hp
  | _ :: _ => (b, k) :: hp
section
variable {P : Program} {α : Type}
theorem growE_keyed {b n : Nat} (h : b < n) (l : List α) : AV.keyed n 4 (growE b l) = true := by
  cases l with
  | nil => rfl
  | cons x l => simp [growE, AV.keyed, h]
theorem growE_ren (σ : Nat → Nat) (b : Nat) (l : List α) : (growE b l).ren σ 4 = growE (σ b) l := by cases l <;> rfl
theorem growE_own {b : Nat} {l : List α} (h : 0 < l.length) : growE b l = .own b l.length := by
  cases l with
  | nil => simp at h
  | cons x l => rfl
end
end Go.Proofs.Ytgggekjhfdkgkaa.Ab
