/- Abstract runs, part 6: operations that make or write own blocks. -/
import Derived.Test.YtgggekjhfdkgkaaAbE
import Derived.Maps.AppendAt
import Derived.Laws.CopyRow
namespace Go.Proofs.Ytgggekjhfdkgkaa.Ab
open Go Go.RowKit Go.Shelf

def putB (b : Nat) (k : Blk) : List (Nat × Blk) → List (Nat × Blk)
  | [] => [(b, k)]
  | (c, x) :: l => if b = c then (b, k) :: l else (c, x) :: putB b k l
def delB (b : Nat) : List (Nat × Blk) → List (Nat × Blk)
  | [] => []
  | (c, x) :: l => if b = c then delB b l else (c, x) :: delB b l
theorem get_putB (b : Nat) (k : Blk) (c : Nat) : ∀ hp, get c (putB b k hp) = if c = b then some k else get c hp
  | [] => rfl
  | (d, x) :: l => by
    unfold putB
    by_cases h : b = d
    · subst h
      rw [if_pos rfl]
      unfold get
      split <;> rfl
    · rw [if_neg h]
      unfold get
      rw [get_putB b k c l]
      by_cases h2 : c = d
      · subst h2; rw [if_pos rfl, if_neg (fun e => h e.symm), if_pos rfl]
      · rw [if_neg h2, if_neg h2]
theorem get_delB (b c : Nat) : ∀ hp, get c (delB b hp) = if c = b then none else get c hp
  | [] => by unfold delB get; split <;> rfl
  | (d, x) :: l => by
    unfold delB
    by_cases h : b = d
    · subst h
      rw [if_pos rfl, get_delB b c l]
      show _ = if c = b then none else (if c = b then some x else get c l)
      split <;> rfl
    · rw [if_neg h]
      unfold get
      rw [get_delB b c l]
      by_cases h2 : c = d
      · subst h2; rw [if_pos rfl, if_neg (fun e => h e.symm), if_pos rfl]
      · rw [if_neg h2, if_neg h2]
def bytesT (P : Program) (t : TypeId) : Option Nat := (P.info? t).map (·.bytes)
/-- What a slice holds, as it is appended to: how many elements, their cells, the blocks without it. -/
def aOld (e : TypeId) (k : Nat) (hp : List (Nat × Blk)) : AV → Option (Nat × List AV × List (Nat × Blk))
  | .s (.slice none 0 0) => some (0, [], hp)
  | .own b n => match get b hp with
    | some q => if q.ty = e ∧ q.sz = k then (if q.cs.length = n * k then some (n, q.cs, delB b hp) else none) else none
    | none => none
  | _ => none
/-- What is appended. -/
def aNew (k : Nat) (hp : List (Nat × Blk)) : AV → Option (Nat × List AV)
  | .s (.slice none 0 0) => some (0, [])
  | .sl sz es => if sz = k then some (es.length, es.flatten) else none
  | .own b n => match get b hp with
    | some q => if q.sz = k then (if q.cs.length = n * k then (if q.cs.all AV.one = true then some (n, q.cs) else none) else none) else none
    | none => none
  | _ => none
def AV.isOwn : AV → Bool
  | .own _ _ => true
  | _ => false
def aAppend (P : Program) (t : TypeId) (hp : List (Nat × Blk)) (nx : Nat) (s x : AV) : Option (AV × List (Nat × Blk) × Nat) :=
  match P.underlying t with
  | some (.slice e) => (match sizeT P e, bytesT P e, zeroT P e with
    | some k, some by_, some z => (match aOld e k hp s, aNew k hp x with
      | some (n, old, hp'), some (q, new) => if 0 < k ∧ z.length = k then (if (n + q) * by_ ≤ 140737488355328 ∧ n + q ≤ 1152921504606846976 ∧ (0 < n + q ∨ s.isOwn = true) then some (.own nx (n + q), (nx, ⟨e, k, old ++ new⟩) :: hp', nx + 1) else none) else none
      | _, _ => none)
    | _, _, _ => none)
  | _ => none
def aStore (P : Program) (t : TypeId) (hp : List (Nat × Blk)) (x v : AV) : Option (List (Nat × Blk)) :=
  match x with
  | .ptr b o => (match get b hp, sizeT P t with
    | some q, some k => if v.cells.length = k ∧ v.cells.all AV.one = true then (if o + k ≤ q.cs.length then some (putB b { q with cs := q.cs.take o ++ v.cells ++ q.cs.drop (o + k) } hp) else none) else none
    | _, _ => none)
  | _ => none
def aMake (P : Program) (t : TypeId) (hp : List (Nat × Blk)) (nx : Nat) (l c : AV) : Option (AV × List (Nat × Blk) × Nat) :=
  match l, c with
  | .s (.int _ l), .s (.int _ c) => (match P.underlying t with
    | some (.slice e) => (match sizeT P e, bytesT P e, zeroT P e with
      | some k, some by_, some z => if 0 < k ∧ z.length = k then (if 0 ≤ l ∧ l ≤ c ∧ (by_ : Int) * c ≤ 140737488355328 ∧ c ≤ 1152921504606846976 then some (.own nx l.toNat, (nx, ⟨e, k, (List.replicate l.toNat z).flatten⟩) :: hp, nx + 1) else none) else none
      | _, _, _ => none)
    | _ => none)
  | _, _ => none
/-- What an operation that makes or writes own blocks yields, and the blocks behind it. -/
def aHeap (P : Program) (ρ : Operand → Option AV) (hp : List (Nat × Blk)) (nx : Nat) : Op → Option (AV × List (Nat × Blk) × Nat)
  | .alloc t => (zeroT P t).map fun z => (.ptr nx 0, (nx, ⟨t, 0, z⟩) :: hp, nx + 1)
  | .store t x v => match ρ x, ρ v with
    | some x, some v => (aStore P t hp x v).map fun hp => (.s undef, hp, nx)
    | _, _ => none
  | .makeSlice t l c => match ρ l, ρ c with
    | some l, some c => aMake P t hp nx l c
    | _, _ => none
  | .buildSlice t n parts => match n, parts.toList with
    | 0, [] => (match P.underlying t with
      | some (.slice e) => (match sizeT P e with
        | some k => if 0 < k then some (.own nx 0, (nx, ⟨e, k, []⟩) :: hp, nx + 1) else none
        | none => none)
      | _ => none)
    | _, _ => none
  | .call c => match c.callee with
    | .builtin .append => (match c.args.toList, c.argTypes.toList with
      | [s, x], [t, t'] => if t = t' then (match ρ s, ρ x with
        | some s, some x => aAppend P t hp nx s x
        | _, _ => none) else none
      | _, _ => none)
    | _ => none
  | _ => none
section
variable {P : Program} {w w' : World} {S S' : Nat → Prop} {m m' : Nat → Nat × Nat} {nx nx' : Nat} {F : Fr} {hp hp' : List (Nat × Blk)}
/-- Values that stood for something still stand for it. -/
def Carries (w : World) (S : Nat → Prop) (m : Nat → Nat × Nat) (nx : Nat) (w' : World) (S' : Nat → Prop) (m' : Nat → Nat × Nat) (nx' : Nat) : Prop := ∀ x u, Rep w S m nx x u → Rep w' S' m' nx' x u

theorem Mem.push (h : Mem F hp nx w S m) (ty : TypeId) (sz cap : Nat) (cs : List AV) (cur : Array Value) (hc : ∀ (j : Nat) (x : AV), cs[j]? = some x → ∃ v, cur[j]? = some v ∧ Rep w S m nx x v) (hs : sz ≠ 0 → cur.size = cap * sz ∧ cap ≤ maxLen)
    (hw : Below w.heap.size w w') (hn : w'.heap[w.heap.size]? = some (.cells cur ty (0, 0))) :
    Mem F ((nx, ⟨ty, sz, cs⟩) :: hp) (nx + 1) w' (fun i => S i ∨ i = w.heap.size) (fun b => if b = nx then (w.heap.size, cap) else m b) ∧ Carries w S m nx w' (fun i => S i ∨ i = w.heap.size) (fun b => if b = nx then (w.heap.size, cap) else m b) (nx + 1) := by
  have hlt : w.heap.size < w'.heap.size := (Array.getElem?_eq_some_iff.1 hn).1
  have hcar : Carries w S m nx w' (fun i => S i ∨ i = w.heap.size) (fun b => if b = nx then (w.heap.size, cap) else m b) (nx + 1) := fun x u hr =>
    hr.mono (fun i hi hS => ⟨hw.block i hi, fun hh => hh.elim hS (fun e => by omega)⟩) (fun b hb => if_neg (by omega)) (by omega)
  have hold : ∀ b k, get b hp = some k → b ≠ nx ∧ (m b).1 < w.heap.size := fun b k hg => ⟨by have := (h.live b k hg).1; omega, h.lt _ (h.live b k hg).2.1⟩
  refine ⟨⟨hw.os.trans h.os, hw.tape.trans h.tape, hw.output.trans h.output, Nat.le_trans h.size hw.size, fun i hi hn => (hw.block i (Nat.lt_of_lt_of_le hi h.size)).trans (h.keep i hi hn), fun i hi => ?_, fun b hb => (if_neg (by have := h.nile; omega)).trans (h.agree b hb), by have := h.nile; omega, fun i hi => ?_, fun b k hg => ?_, fun b k hg => ?_, fun b b' k k' hg hg' he => ?_⟩, hcar⟩
  · have := h.size
    exact ⟨fun hh => hh.elim (h.old i hi).1 (fun e => by omega), fun hh h0 => .inl ((h.old i hi).2 hh h0)⟩
  · exact hi.elim (fun hh => Nat.lt_of_lt_of_le (h.lt i hh) hw.size) (fun e => by omega)
  · unfold get at hg
    split at hg
    · rename_i e; subst e
      simp only [if_true, if_pos]
      exact ⟨by omega, by simp, .inr h.size⟩
    · have hl := h.live b k hg
      rw [if_neg (hold b k hg).1]
      exact ⟨by omega, .inl hl.2.1, hl.2.2⟩
  · unfold get at hg
    split at hg
    · rename_i e; subst e
      injection hg with hg; subst hg
      simp only [if_true, if_pos]
      exact ⟨cur, hn, fun j x hx => by obtain ⟨v, h1, h2⟩ := hc j x hx; exact ⟨v, h1, hcar _ _ h2⟩, hs⟩
    · rw [if_neg (hold b k hg).1]
      obtain ⟨cur, h1, h2, h3⟩ := h.cells b k hg
      exact ⟨cur, (hw.block _ (hold b k hg).2).trans h1, fun j x hx => by obtain ⟨v, h1, h2⟩ := h2 j x hx; exact ⟨v, h1, hcar _ _ h2⟩, h3⟩
  · unfold get at hg hg'
    split at hg
    · rename_i e; subst e
      split at hg'
      · rename_i e; exact e.symm
      · rw [if_pos rfl, if_neg (hold b' k' hg').1] at he
        have := (hold b' k' hg').2
        simp only at he; omega
    · split at hg'
      · rename_i e; subst e
        rw [if_pos rfl, if_neg (hold b k hg).1] at he
        have := (hold b k hg).2
        simp only at he; omega
      · rw [if_neg (hold b k hg).1, if_neg (hold b' k' hg').1] at he
        exact h.inj b b' k k' hg hg' he
theorem Mem.write (h : Mem F hp nx w S m) {b : Nat} {q : Blk} (hb : get b hp = some q) {cur cur' : Array Value} (hc : w.heap[(m b).1]? = some (.cells cur q.ty (0, 0))) (hsz : cur'.size = cur.size) (cs' : List AV)
    (hr : ∀ (j : Nat) (x : AV), cs'[j]? = some x → ∃ v, cur'[j]? = some v ∧ Rep w S m nx x v) :
    Mem F (putB b { q with cs := cs' } hp) nx (w.setRow (m b).1 cur') S m ∧ Carries w S m nx (w.setRow (m b).1 cur') S m nx := by
  have hl := h.live b q hb
  have hcar : Carries w S m nx (w.setRow (m b).1 cur') S m nx := fun x u hr =>
    hr.mono (fun i hi hS => ⟨setRow_other w _ i cur' (fun e => hS (by rw [e]; exact hl.2.1)), hS⟩) (fun _ _ => rfl) (Nat.le_refl _)
  have hold : ∀ c k, get c (putB b { q with cs := cs' } hp) = some k → c = b ∧ k = { q with cs := cs' } ∨ c ≠ b ∧ get c hp = some k := fun c k hg => by
    rw [get_putB] at hg
    split at hg
    · rename_i e; injection hg with hg; exact .inl ⟨e, hg.symm⟩
    · rename_i e; exact .inr ⟨e, hg⟩
  have hex : ∀ c k, get c (putB b { q with cs := cs' } hp) = some k → ∃ k', get c hp = some k' := fun c k hg => (hold c k hg).elim (fun ⟨e, _⟩ => ⟨q, by rw [e]; exact hb⟩) (fun ⟨_, e⟩ => ⟨k, e⟩)
  refine ⟨⟨h.os, h.tape, h.output, by rw [setRow_size]; exact h.size, fun i hi hn => (setRow_other w _ i cur' (fun e => ?_)).trans (h.keep i hi hn), h.old, h.agree, h.nile, fun i hi => by rw [setRow_size]; exact h.lt i hi, fun c k hg => ?_, fun c k hg => ?_, fun c c' k k' hg hg' he => ?_⟩, hcar⟩
  · rcases hl.2.2 with h1 | h1
    · exact hn (by rw [e]; exact h1)
    · omega
  · obtain ⟨k', hk⟩ := hex c k hg
    exact h.live c k' hk
  · rcases hold c k hg with ⟨rfl, rfl⟩ | ⟨hne, hg'⟩
    · obtain ⟨cur0, h1, h2, h3⟩ := h.cells c q hb
      rw [hc] at h1
      injection h1 with h1; injection h1 with h1; subst h1
      exact ⟨cur', setRow_heap w _ cur cur' _ _ hc, fun j x hx => by obtain ⟨v, h1, h2⟩ := hr j x hx; exact ⟨v, h1, hcar _ _ h2⟩, fun hz => by rw [hsz]; exact h3 hz⟩
    · obtain ⟨cur0, h1, h2, h3⟩ := h.cells c k hg'
      exact ⟨cur0, (setRow_other w _ _ cur' (fun e => hne (h.inj c b k q hg' hb e))).trans h1, fun j x hx => by obtain ⟨v, h1, h2⟩ := h2 j x hx; exact ⟨v, h1, hcar _ _ h2⟩, h3⟩
  · obtain ⟨k1, h1⟩ := hex c k hg
    obtain ⟨k2, h2⟩ := hex c' k' hg'
    exact h.inj c c' k1 k2 h1 h2 he
/-- Fewer blocks are known. -/
theorem Mem.fewer (h : Mem F hp nx w S m) (hs : ∀ b k, get b hp' = some k → get b hp = some k) : Mem F hp' nx w S m :=
  ⟨h.os, h.tape, h.output, h.size, h.keep, h.old, h.agree, h.nile, h.lt, fun b k hg => h.live b k (hs b k hg), fun b k hg => h.cells b k (hs b k hg), fun b b' k k' hg hg' => h.inj b b' k k' (hs b k hg) (hs b' k' hg')⟩
theorem aStore_sound (h : Mem F hp nx w S m) {t : TypeId} {x y : AV} {u v : Value} (hx : Rep w S m nx x u) (hy : Rep w S m nx y v) (hs : aStore P t hp x y = some hp') :
    ∃ w', (Instr.storeAt t u v).run P w = .ok () w' ∧ Mem F hp' nx w' S m ∧ Carries w S m nx w' S m nx := by
  unfold aStore at hs
  split at hs
  · rename_i b o
    split at hs
    · rename_i q k hq hk
      split at hs
      · rename_i hh
        obtain ⟨hlen, hall⟩ := hh
        split at hs
        · rename_i hle
          injection hs with hs; subst hs
          cases hx with
          | ptr _ _ hb =>
            obtain ⟨cur, hc, hr, hcap⟩ := h.cells b q hq
            obtain ⟨hcl, hcr⟩ := rep_cells hy
            have hcs : q.cs.length ≤ cur.size := by
              rcases Nat.eq_zero_or_pos q.cs.length with h0 | h0
              · omega
              · obtain ⟨v, hv, _⟩ := hr (q.cs.length - 1) _ (List.getElem?_eq_getElem (by omega))
                have := (Array.getElem?_eq_some_iff.1 hv).1
                omega
            have hone : ∀ v' ∈ v.cells.toList, v'.oneCell' = true := fun v' hv' => by
              obtain ⟨j, hj⟩ := List.getElem?_of_mem hv'
              have hjl : j < y.cells.length := by rw [hcl]; simpa using (List.getElem?_eq_some_iff.1 hj).1
              have := hcr j _ v' (List.getElem?_eq_getElem hjl) (by simpa using hj)
              exact this.oneC (List.all_eq_true.1 hall _ (List.getElem_mem _))
            have hrun := run_storeCells_at (P := P) (m b).1 o q.ty v.cells.toList 0 cur w hc (by simp [← hcl]; omega) hone
            have hw := h.write hq hc (cur' := (cur.toList.take (o + 0) ++ v.cells.toList ++ cur.toList.drop (o + 0 + v.cells.toList.length)).toArray) (by simp [← hcl]; omega) (q.cs.take o ++ y.cells ++ q.cs.drop (o + k)) (fun j x hx => by
              simp only [Nat.add_zero, List.getElem?_toArray, Array.length_toList, ← hcl, hlen]
              by_cases h1 : j < o
              · rw [List.append_assoc, List.getElem?_append_left (by simp; omega), List.getElem?_take, if_pos h1] at hx
                obtain ⟨v', h2, h3⟩ := hr j x hx
                exact ⟨v', by rw [List.append_assoc, List.getElem?_append_left (by simp; omega), List.getElem?_take, if_pos h1]; simpa using h2, h3⟩
              · by_cases h2 : j < o + k
                · rw [List.append_assoc, List.getElem?_append_right (by simp; omega), List.length_take, Nat.min_eq_left (by omega), List.getElem?_append_left (by omega)] at hx
                  have hlt : j - o < v.cells.size := by omega
                  refine ⟨v.cells[j - o], ?_, hcr _ x _ hx (Array.getElem?_eq_getElem hlt)⟩
                  rw [List.append_assoc, List.getElem?_append_right (by simp; omega), List.length_take, Nat.min_eq_left (by simp; omega), List.getElem?_append_left (by simpa using hlt)]
                  simp [hlt]
                · rw [List.append_assoc, List.getElem?_append_right (by simp; omega), List.length_take, Nat.min_eq_left (by omega), List.getElem?_append_right (by omega), List.getElem?_drop] at hx
                  obtain ⟨v', h3, h4⟩ := hr _ x hx
                  refine ⟨v', ?_, h4⟩
                  rw [List.append_assoc, List.getElem?_append_right (by simp; omega), List.length_take, Nat.min_eq_left (by simp; omega), List.getElem?_append_right (by simp; omega), List.getElem?_drop, Array.getElem?_toList, ← h3]
                  simp only [Array.length_toList]
                  congr 1; omega)
            refine ⟨_, ?_, hw⟩
            simp only [Instr.storeAt, Instr.sureAddr, Sem.run_bind, Sem.run_pure, Result.andThen_ok, storeVar, run_sizeT hk]
            rw [if_neg (by simp; omega)]
            simpa using hrun
        · cases hs
      · cases hs
    · cases hs
  · cases hs
theorem made_flat (z : Array Value) (n c : Nat) (hc : n ≤ c) (hz : 0 < z.size) : ∀ (j : Nat) (x : AV), (List.replicate n (z.toList.map AV.s)).flatten[j]? = some x → ∃ v, (madeCells z (c * z.size))[j]? = some v ∧ Rep w S m nx x v := fun j x hx => by
  have h1 := flat_get _ _ _ _ hx
  have hlt : j < n * z.size := by
    have := (List.getElem?_eq_some_iff.1 hx).1
    rw [flat_len] at this; simpa using this
  have hle : n * z.size ≤ c * z.size := Nat.mul_le_mul_right _ hc
  simp only [List.length_map, Array.length_toList] at h1
  rw [List.getElem?_map] at h1
  have hm : j % z.size < z.size := Nat.mod_lt _ hz
  have h2 : z.toList[j % z.size]? = some z[j % z.size] := by simp [hm]
  rw [h2] at h1
  injection h1 with h1; subst h1
  refine ⟨z[j % z.size], ?_, .s _⟩
  unfold madeCells
  rw [Array.getElem?_map, Array.getElem?_range, if_pos (by omega)]
  simp [hm]
theorem aMake_sound (h : Mem F hp nx w S m) {t : TypeId} {x y r : AV} {u v : Value} (hx : Rep w S m nx x u) (hy : Rep w S m nx y v) (hs : aMake P t hp nx x y = some (r, hp', nx')) :
    ∃ z w' S' m', (Instr.makeSlice t u v).run P w = .ok z w' ∧ Mem F hp' nx' w' S' m' ∧ Carries w S m nx w' S' m' nx' ∧ Rep w' S' m' nx' r z := by
  unfold aMake at hs
  split at hs
  · rename_i kl l kc c
    split at hs
    · rename_i e hu
      split at hs
      · rename_i k by_ z hk hby hz
        split at hs
        · rename_i hk0
          split at hs
          · rename_i hh
            injection hs with hs
            simp only [Prod.mk.injEq] at hs
            obtain ⟨rfl, rfl, rfl⟩ := hs
            obtain ⟨h0, hlc, hb, h63⟩ := hh
            cases hx; cases hy
            unfold sizeT at hk; unfold bytesT at hby; unfold zeroT at hz
            cases hi : P.info? e with
            | none => rw [hi] at hk; cases hk
            | some i =>
              rw [hi] at hk hby hz
              simp only [Option.map_some, Option.some.injEq, Option.bind_some] at hk hby hz
              subst hk; subst hby
              cases hzz : i.zero with
              | none => rw [hzz] at hz; cases hz
              | some zv =>
                rw [hzz] at hz; simp only [Option.map_some, Option.some.injEq] at hz
                subst hz
                have hr := run_make (P := P) w t e i zv hu hi hzz kl kc l c h0 hlc (by omega) (by omega)
                have hzs : zv.cells.size = i.size := by simpa using hk0.2
                obtain ⟨h1, h2⟩ := h.push (w' := w.alloc (.cells (madeCells zv.cells (c.toNat * i.size)) e)) e i.size c.toNat (List.replicate l.toNat (zv.cells.toList.map AV.s)).flatten (madeCells zv.cells (c.toNat * i.size)) (by rw [← hzs]; exact made_flat zv.cells l.toNat c.toNat (by omega) (by omega))
                  (fun _ => ⟨size_madeCells _ _, by simp only [maxLen]; omega⟩) ((Below.refl _ _).alloc (Nat.le_refl _) _) (heap_alloc_new w _)
                refine ⟨_, _, _, _, hr, h1, h2, ?_⟩
                have := Rep.own (w := w.alloc (.cells (madeCells zv.cells (c.toNat * i.size)) e)) (S := fun i => S i ∨ i = w.heap.size) (m := fun b => if b = nx then (w.heap.size, c.toNat) else m b) (nx := nx + 1) nx l.toNat (by omega)
                simpa using this
          · cases hs
        · cases hs
      · cases hs
    · cases hs
  · cases hs
end
end Go.Proofs.Ytgggekjhfdkgkaa.Ab
