/- Abstract runs, part 5: structs, arrays and slices that are built. -/
import Derived.Test.YtgggekjhfdkgkaaAbD
namespace Go.Proofs.Ytgggekjhfdkgkaa.Ab
open Go Go.RowKit Go.Shelf

/-- The cells of a variable of a type before anything is written. -/
def zeroT (P : Program) (t : TypeId) : Option (List AV) := ((P.info? t).bind (·.zero)).map fun z => z.cells.toList.map .s
def AV.one : AV → Bool
  | .s v => v.oneCell'
  | .agg _ => false
  | .tup _ => false
  | _ => true
/-- The cells of a value. -/
def AV.cells : AV → List AV
  | .agg cs => cs
  | .s (.agg vs) => vs.toList.map .s
  | x => [x]
def aFill (place : Nat → Option (Nat × Nat)) (cells : List AV) : List (Nat × AV) → Option (List AV)
  | [] => some cells
  | (i, v) :: rest => match place i with
    | none => none
    | some (off, size) => if v.cells.length = size ∧ off + size ≤ cells.length then aFill place (cells.take off ++ v.cells ++ cells.drop (off + size)) rest else none
def aParts (ρ : Operand → Option AV) : List (Nat × Operand) → Option (List (Nat × AV))
  | [] => some []
  | (i, o) :: l => match ρ o, aParts ρ l with
    | some x, some r => some ((i, x) :: r)
    | _, _ => none
def places (P : Program) : List Field → Option (List (Nat × Nat))
  | [] => some []
  | f :: l => match sizeT P f.type, places P l with
    | some k, some r => some ((f.offset, k) :: r)
    | _, _ => none
def aBuild (P : Program) (ρ : Operand → Option AV) (t : TypeId) (parts : List (Nat × Operand)) : Option AV :=
  match zeroT P t, aParts ρ parts with
  | some z, some ps => (match P.underlying t with
    | some (.struct fs) => (match places P fs.toList with
      | some pl => (aFill (pl[·]?) z ps).map .agg
      | none => none)
    | some (.array _ e) => (match sizeT P e with
      | some k => (aFill (fun i => some (i * k, k)) z ps).map .agg
      | none => none)
    | _ => none)
  | _, _ => none
/-- A list in pieces of one size. -/
def chunks (k : Nat) : Nat → List AV → List (List AV)
  | 0, _ => []
  | n + 1, l => l.take k :: chunks k n (l.drop k)
def aBuildSlice (P : Program) (ρ : Operand → Option AV) (t : TypeId) (n : Nat) (parts : List (Nat × Operand)) : Option AV :=
  match P.underlying t with
  | some (.slice e) => (match sizeT P e, zeroT P e, aParts ρ parts with
    | some k, some z, some ps => if 0 < n ∧ n * k ≤ 2 ^ 24 ∧ z.length = k ∧ 0 < k then (aFill (fun i => some (i * k, k)) (List.replicate n z).flatten ps).bind (fun cs => if cs.all (fun x => x.one && x.keyed 0 4) = true then some (.sl k (chunks k n cs)) else none) else none
    | _, _, _ => none)
  | _ => none
/-- A variable that is made with its value and never written again. -/
def aBox (ρ : Operand → Option AV) (x : Operand) : Option AV :=
  match ρ x with
  | some v => if v.cells.all (AV.keyed 0 4) = true then some (.ip v.cells) else none
  | none => none
/-- The value of an operation that writes nothing that is there and calls nothing. -/
def aPure (P : Program) (ρ : Operand → Option AV) (hp : List (Nat × Blk)) : Op → Option AV
  | .build t parts => aBuild P ρ t parts.toList
  | .buildSlice t n parts => aBuildSlice P ρ t n parts.toList
  | .box _ x => aBox ρ x
  | o => aVal P ρ hp o

section
variable {P : Program} {w : World} {S : Nat → Prop} {m : Nat → Nat × Nat} {nx : Nat} {F : Fr} {hp : List (Nat × Blk)}
/-- A row of abstract cells stands for a row of values. -/
def RepA (w : World) (S : Nat → Prop) (m : Nat → Nat × Nat) (nx : Nat) (cs : List AV) (vs : Array Value) : Prop :=
  cs.length = vs.size ∧ ∀ (j : Nat) (a : AV) (b : Value), cs[j]? = some a → vs[j]? = some b → Rep w S m nx a b
theorem repA_s (l : List Value) : RepA w S m nx (l.map .s) l.toArray := ⟨by simp, fun j a b ha hb => by
  rw [List.getElem?_map] at ha
  have hb' : l[j]? = some b := by simpa using hb
  rw [hb'] at ha; injection ha with ha; subst ha; exact .s b⟩
theorem rep_cells {x : AV} {v : Value} (h : Rep w S m nx x v) : RepA w S m nx x.cells v.cells := by
  have one : ∀ {x : AV} {v : Value}, Rep w S m nx x v → RepA w S m nx [x] #[v] := fun {x v} h => ⟨rfl, fun j a b ha hb => by
    cases j with
    | zero => simp at ha hb; subst ha; subst hb; exact h
    | succ j => simp at ha⟩
  cases h with
  | s v =>
    cases v with
    | agg vs => exact repA_s vs.toList
    | _ => exact one (.s _)
  | agg vs hl hr => exact ⟨hl, hr⟩
  | tup vs hl hr => exact one (.tup vs hl hr)
  | sl0 a cap => exact one (.sl0 a cap)
  | sl g off cap val hg hS hz hc ho hr => exact one (.sl g off cap val hg hS hz hc ho hr)
  | ip g off val hg hS hc hr => exact one (.ip g off val hg hS hc hr)
  | own b n hb => exact one (.own b n hb)
  | ptr b n hb => exact one (.ptr b n hb)
  | fn vs hl hr => exact one (.fn vs hl hr)
theorem foldl_set (off : Nat) : ∀ (l : List Value) (k : Nat) (arr : Array Value), off + k + l.length ≤ arr.size →
    ((l.zipIdx k).foldl (fun cs (p : Value × Nat) => cs.setIfInBounds (off + p.2) p.1) arr).size = arr.size ∧
    ∀ j, ((l.zipIdx k).foldl (fun cs (p : Value × Nat) => cs.setIfInBounds (off + p.2) p.1) arr)[j]? = if off + k ≤ j ∧ j < off + k + l.length then l[j - (off + k)]? else arr[j]?
  | [], k, arr, _ => ⟨rfl, fun j => by simp only [List.zipIdx_nil, List.foldl_nil, List.length_nil]; rw [if_neg (by omega)]⟩
  | v :: l, k, arr, h => by
    have ih := foldl_set off l (k + 1) (arr.setIfInBounds (off + k) v) (by simp at h ⊢; omega)
    simp only [List.zipIdx_cons, List.foldl_cons]
    refine ⟨by rw [ih.1]; simp, fun j => ?_⟩
    rw [ih.2 j]
    simp only [List.length_cons] at h ⊢
    by_cases h1 : j = off + k
    · subst h1
      have hlt : off + k < arr.size := by omega
      rw [if_neg (by omega), if_pos (by omega), Nat.sub_self]
      simp [hlt]
    · by_cases h2 : off + k ≤ j ∧ j < off + k + (l.length + 1)
      · rw [if_pos h2, if_pos (by omega), show j - (off + k) = (j - (off + (k + 1))) + 1 by omega, List.getElem?_cons_succ]
      · rw [if_neg h2, if_neg (by omega), Array.getElem?_setIfInBounds_ne (by omega)]
theorem fill_sound (place : Nat → Option (Nat × Nat)) : ∀ (ps : List (Nat × AV)) (vs : List (Nat × Value)) (cs out : List AV) (arr : Array Value), RepA w S m nx cs arr →
    ps.length = vs.length → (∀ (j : Nat) (p : Nat × AV) (q : Nat × Value), ps[j]? = some p → vs[j]? = some q → p.1 = q.1 ∧ Rep w S m nx p.2 q.2) → aFill place cs ps = some out →
    ∃ arr', Instr.fill place arr vs = some arr' ∧ RepA w S m nx out arr'
  | [], vs, cs, out, arr, hr, hl, _, h => by
    have : vs = [] := List.length_eq_zero_iff.1 hl.symm
    subst this; injection h with h; subst h; exact ⟨arr, rfl, hr⟩
  | (i, x) :: ps, [], _, _, _, _, hl, _, _ => by simp at hl
  | (i, x) :: ps, (i', v) :: vs, cs, out, arr, hr, hl, hp, h => by
    obtain ⟨rfl, hx⟩ := hp 0 _ _ rfl rfl
    unfold aFill at h
    unfold Instr.fill
    simp only at hx ⊢
    cases hpl : place i with
    | none => rw [hpl] at h; cases h
    | some q =>
      obtain ⟨off, size⟩ := q
      rw [hpl] at h
      simp only at h ⊢
      split at h
      · rename_i hh
        obtain ⟨rfl, hle⟩ := hh
        obtain ⟨hcl, hcr⟩ := rep_cells hx
        have hsz : v.cells.size = x.cells.length := hcl.symm
        rw [if_neg (by rw [hsz, ← hr.1]; simp; omega)]
        have hf := foldl_set off v.cells.toList 0 arr (by simp [hsz]; rw [← hr.1]; exact hle)
        have hz : v.cells.zipIdx.foldl (fun cs (p : Value × Nat) => cs.setIfInBounds (off + p.2) p.1) arr = (v.cells.toList.zipIdx 0).foldl (fun cs (p : Value × Nat) => cs.setIfInBounds (off + p.2) p.1) arr := by
          rw [← Array.foldl_toList]; simp
        refine fill_sound place ps vs _ out _ ?_ (by simpa using hl) (fun j p q h1 h2 => hp (j + 1) p q (by simpa using h1) (by simpa using h2)) h
        rw [hz]
        refine ⟨by rw [hf.1, ← hr.1]; simp; omega, fun j a b ha hb => ?_⟩
        rw [hf.2 j] at hb
        simp only [Nat.add_zero, Array.length_toList, hsz] at hb
        by_cases h1 : j < off
        · rw [if_neg (by omega)] at hb
          rw [List.append_assoc, List.getElem?_append_left (by simp; omega), List.getElem?_take, if_pos h1] at ha
          exact hr.2 j a b ha hb
        · by_cases h2 : j < off + x.cells.length
          · rw [if_pos (by omega)] at hb
            rw [List.append_assoc, List.getElem?_append_right (by simp; omega), List.length_take, Nat.min_eq_left (by omega), List.getElem?_append_left (by omega)] at ha
            exact hcr _ a b ha (by simpa using hb)
          · rw [if_neg (by omega)] at hb
            rw [List.append_assoc, List.getElem?_append_right (by simp; omega), List.length_take, Nat.min_eq_left (by omega), List.getElem?_append_right (by omega), List.getElem?_drop] at ha
            exact hr.2 j a b (by rw [← ha]; congr 1; omega) hb
      · cases h
theorem parts_sound {ρ : Operand → Option AV} {ev : Operand → Value} (hρ : ∀ o x, ρ o = some x → Rep w S m nx x (ev o)) : ∀ (l : List (Nat × Operand)) (ps : List (Nat × AV)), aParts ρ l = some ps →
    ps.length = (l.map fun p => (p.1, ev p.2)).length ∧ ∀ (j : Nat) (p : Nat × AV) (q : Nat × Value), ps[j]? = some p → (l.map fun p => (p.1, ev p.2))[j]? = some q → p.1 = q.1 ∧ Rep w S m nx p.2 q.2
  | [], ps, h => by injection h with h; subst h; exact ⟨rfl, fun j p q hp => by simp at hp⟩
  | (i, o) :: l, ps, h => by
    unfold aParts at h
    split at h
    · rename_i x r hx hr
      injection h with h; subst h
      obtain ⟨h1, h2⟩ := parts_sound hρ l r hr
      refine ⟨by simpa using h1, fun j p q hp hq => ?_⟩
      cases j with
      | zero => simp at hp hq; subst hp; subst hq; exact ⟨rfl, hρ _ _ hx⟩
      | succ j => exact h2 j p q (by simpa using hp) (by simpa using hq)
    · cases h
theorem run_zeroT {t : TypeId} {z : List AV} (h : zeroT P t = some z) (w : World) : ∃ v, (zeroValue t).run P w = .ok v w ∧ z = v.cells.toList.map .s := by
  unfold zeroT at h
  cases hi : P.info? t with
  | none => rw [hi] at h; cases h
  | some i =>
    rw [hi] at h
    cases hz : i.zero with
    | none => simp [hz] at h
    | some v =>
      simp [hz] at h
      exact ⟨v, by simp [zeroValue, typeInfo, hi, hz], by rw [← h]⟩
theorem places_sound (w : World) : ∀ (l : List Field) (pl : List (Nat × Nat)), places P l = some pl → (l.mapM fun f => (do pure (f.offset, ← sizeOf f.type) : Sem (Nat × Nat))).run P w = .ok pl w
  | [], pl, h => by injection h with h; subst h; simp
  | f :: l, pl, h => by
    unfold places at h
    split at h
    · rename_i k r hk hr
      injection h with h; subst h
      have ih := places_sound w l r hr
      rw [List.mapM_cons, Sem.run_bind, Sem.run_bind, run_sizeT hk w]
      simp only [Result.andThen_ok, Sem.run_pure]
      rw [Sem.run_bind, ih]
      rfl
    · cases h
theorem aBuild_sound {ρ : Operand → Option AV} {ev : Operand → Value} (hρ : ∀ o x, ρ o = some x → Rep w S m nx x (ev o)) {t : TypeId} {parts : Array (Nat × Operand)} {y : AV} (h : aBuild P ρ t parts.toList = some y) :
    ∃ v, (Instr.build t (parts.map fun (i, x) => (i, ev x))).run P w = .ok v w ∧ Rep w S m nx y v := by
  unfold aBuild at h
  split at h
  · rename_i z ps hz hps
    obtain ⟨zv, hzr, rfl⟩ := run_zeroT hz w
    obtain ⟨hl, hpr⟩ := parts_sound hρ _ _ hps
    have hmap : (parts.map fun (i, x) => (i, ev x)).toList = parts.toList.map fun p => (p.1, ev p.2) := by simp
    split at h
    · rename_i fs hu
      split at h
      · rename_i pl hpl
        obtain ⟨out, ho, h⟩ := map_some' h
        subst h
        obtain ⟨arr, ha, hr⟩ := fill_sound (w := w) (S := S) (m := m) (nx := nx) (pl[·]?) ps _ _ out zv.cells (by have := repA_s (w := w) (S := S) (m := m) (nx := nx) zv.cells.toList; simpa using this) hl hpr ho
        refine ⟨.agg arr, ?_, .agg arr hr.1 hr.2⟩
        have hpm := places_sound (P := P) w fs.toList pl hpl
        have hpm2 : (fs.mapM fun f => (do pure (f.offset, ← sizeOf f.type) : Sem (Nat × Nat))).run P w = .ok pl.toArray w := by
          rw [← Array.toArray_toList (xs := fs), List.mapM_toArray, ← bind_pure_comp, Sem.run_bind]
          have e : (List.mapM (fun f => (do pure (f.offset, ← sizeOf f.type) : Sem (Nat × Nat))) fs.toList).run P w = .ok pl w := hpm
          rw [e]; rfl
        unfold Instr.build
        rw [Sem.run_bind, hzr]
        simp only [Result.andThen_ok]
        rw [Sem.run_bind, run_underlying hu]
        simp only [Result.andThen_ok]
        rw [Sem.run_bind, hpm2]
        simp only [Result.andThen_ok, hmap]
        have : (fun (i : Nat) => pl.toArray[i]?) = fun (i : Nat) => pl[i]? := by funext i; simp
        rw [this, ha]; rfl
      · cases h
    · rename_i n e hu
      split at h
      · rename_i k hk
        obtain ⟨out, ho, h⟩ := map_some' h
        subst h
        obtain ⟨arr, ha, hr⟩ := fill_sound (w := w) (S := S) (m := m) (nx := nx) (fun i => some (i * k, k)) ps _ _ out zv.cells (by have := repA_s (w := w) (S := S) (m := m) (nx := nx) zv.cells.toList; simpa using this) hl hpr ho
        refine ⟨.agg arr, ?_, .agg arr hr.1 hr.2⟩
        unfold Instr.build
        rw [Sem.run_bind, hzr]
        simp only [Result.andThen_ok]
        rw [Sem.run_bind, run_underlying hu]
        simp only [Result.andThen_ok]
        rw [Sem.run_bind, run_sizeT hk]
        simp only [Result.andThen_ok, hmap]
        rw [ha]; rfl
      · cases h
    · cases h
  · cases h
theorem chunks_len (k : Nat) : ∀ (n : Nat) (l : List AV), (chunks k n l).length = n
  | 0, _ => rfl
  | n + 1, l => by simp [chunks, chunks_len k n]
theorem chunks_get (k : Nat) : ∀ (n : Nat) (l : List AV) (i : Nat) (e : List AV), (chunks k n l)[i]? = some e → i < n ∧ e = (l.drop (i * k)).take k
  | 0, l, i, e, h => by simp [chunks] at h
  | n + 1, l, i, e, h => by
    unfold chunks at h
    cases i with
    | zero => simp at h; subst h; exact ⟨by omega, by simp⟩
    | succ i =>
      obtain ⟨h1, h2⟩ := chunks_get k n (l.drop k) i e (by simpa using h)
      refine ⟨by omega, ?_⟩
      rw [h2, List.drop_drop, show k + i * k = (i + 1) * k by rw [Nat.add_mul]; omega]
theorem flat_len (n : Nat) (z : List AV) : (List.replicate n z).flatten.length = n * z.length := by
  simp
theorem flat_get (z : List AV) (a : AV) : ∀ (n j : Nat), (List.replicate n z).flatten[j]? = some a → z[j % z.length]? = some a
  | 0, j, h => by simp at h
  | n + 1, j, h => by
    rw [List.replicate_succ, List.flatten_cons] at h
    by_cases hj : j < z.length
    · rw [List.getElem?_append_left hj] at h
      rw [Nat.mod_eq_of_lt hj]; exact h
    · rw [List.getElem?_append_right (by omega)] at h
      have := flat_get z a n _ h
      rw [Nat.mod_eq_sub_mod (by omega)]; exact this
theorem Rep.oneC {x : AV} {v : Value} (h : Rep w S m nx x v) (h1 : x.one = true) : v.oneCell' = true := by
  cases h <;> first | rfl | (simp [AV.one] at h1; done) | exact h1
theorem aBuildSlice_sound (hS : ∀ i, S i → i < w.heap.size) {ρ : Operand → Option AV} {ev : Operand → Value} (hρ : ∀ o x, ρ o = some x → Rep w S m nx x (ev o)) {t : TypeId} {n : Nat} {parts : Array (Nat × Operand)} {y : AV} (h : aBuildSlice P ρ t n parts.toList = some y) :
    ∃ v w', (Instr.buildSlice t n (parts.map fun (i, x) => (i, ev x))).run P w = .ok v w' ∧ Below w.heap.size w w' ∧ Rep w' S m nx y v := by
  unfold aBuildSlice at h
  split at h
  · rename_i e hu
    split at h
    · rename_i k z ps hk hz hps
      split at h
      · rename_i hh
        obtain ⟨hn, h24, hzl, hk0⟩ := hh
        obtain ⟨out, ho, h⟩ := bind_some' h
        split at h
        · rename_i hall
          injection h with h; subst h
          obtain ⟨zv, hzr, rfl⟩ := run_zeroT hz w
          have hzs : zv.cells.size = k := by simpa using hzl
          obtain ⟨hl, hpr⟩ := parts_sound hρ _ _ hps
          have hmap : (parts.map fun (i, x) => (i, ev x)).toList = parts.toList.map fun p => (p.1, ev p.2) := by simp
          have hr0 : RepA w S m nx (List.replicate n (zv.cells.toList.map AV.s)).flatten ((Array.range (n * k)).map (zv.cells[· % zv.cells.size]!)) := by
            refine ⟨by simp [hzs], fun j a b ha hb => ?_⟩
            have hz := flat_get _ _ _ _ ha
            simp only [List.length_map, Array.length_toList] at hz
            rw [Array.getElem?_map, Array.getElem?_range] at hb
            split at hb
            · injection hb with hb
              have hlt : j % zv.cells.size < zv.cells.size := Nat.mod_lt _ (by omega)
              rw [List.getElem?_map] at hz
              have hb2 : zv.cells.toList[j % zv.cells.size]? = some b := by
                rw [← hb]; simp [hlt]
              rw [hb2] at hz
              injection hz with hz; subst hz; exact .s b
            · cases hb
          obtain ⟨arr, ha, hr⟩ := fill_sound (w := w) (S := S) (m := m) (nx := nx) (fun i => some (i * k, k)) ps _ _ out _ hr0 hl hpr ho
          have hlen : out.length = n * k := by
            have : ∀ (place : Nat → Option (Nat × Nat)) (ps : List (Nat × AV)) (cs out : List AV), aFill place cs ps = some out → out.length = cs.length := by
              intro place ps
              induction ps with
              | nil => intro cs out h; injection h with h; subst h; rfl
              | cons p ps ih =>
                intro cs out h
                obtain ⟨i, v⟩ := p
                unfold aFill at h
                split at h
                · cases h
                · split at h
                  · rename_i hh
                    rw [ih _ _ h]; simp; omega
                  · cases h
            rw [this _ _ _ _ ho]; simp [hzs]
          refine ⟨.slice (some ⟨w.heap.size, 0, none⟩) n n, w.alloc (.cells arr e), ?_, (Below.refl _ _).alloc (Nat.le_refl _) _, ?_⟩
          · unfold Instr.buildSlice
            rw [Sem.run_bind, run_underlying hu]
            simp only [Result.andThen_ok]
            rw [Sem.run_bind, run_sizeT hk]
            simp only [Result.andThen_ok]
            rw [if_neg (by omega), if_neg (by have := Nat.mul_pos hn hk0; omega)]
            simp only [Sem.run_bind, hzr, Result.andThen_ok, Sem.run_pure, hmap, ha]
            simp [newRow, newObj, Sem.run]
          · have hS' : ¬ S w.heap.size := fun hh => absurd (hS _ hh) (by omega)
            have hcl := chunks_len k n out
            have hge : ∀ (i : Nat) (e' : List AV) (j : Nat) (a : AV), (chunks k n out)[i]? = some e' → e'[j]? = some a → j < k ∧ i < n ∧ out[i * k + j]? = some a := fun i e' j a he ha => by
              obtain ⟨h1, h2⟩ := chunks_get k n out i e' he
              subst h2
              rw [List.getElem?_take] at ha
              split at ha
              · rename_i hj
                rw [List.getElem?_drop] at ha
                exact ⟨hj, h1, ha⟩
              · cases ha
            have hval : ∀ (i j : Nat) (a : AV), out[i * k + j]? = some a → arr[i * k + j]? = some (arr.getD (i * k + j) undef) := fun i j a ha => by
              have hlt : i * k + j < arr.size := by rw [← hr.1]; exact (List.getElem?_eq_some_iff.1 ha).1
              simp [hlt]
            have hone : ∀ (i : Nat) (a : AV), out[i]? = some a → a.one = true ∧ a.keyed 0 4 = true := fun i a ha => by
              have := List.all_eq_true.1 hall a (List.mem_of_getElem? ha)
              simpa using this
            have := Rep.sl (w := w.alloc (.cells arr e)) (S := S) (m := m) (nx := nx) (sz := k) (es := chunks k n out) w.heap.size 0 n (fun i j => arr.getD (i * k + j) undef) (by simp) hS' (fun e' he => by
              obtain ⟨i, hi⟩ := List.getElem?_of_mem he
              obtain ⟨h1, h2⟩ := chunks_get k n out i e' hi
              have h3 : (i + 1) * k ≤ n * k := Nat.mul_le_mul_right k h1
              rw [Nat.add_mul] at h3
              rw [h2]; simp [hlen]; omega) (fun i e' j a he ha => by
              obtain ⟨h1, h2, h3⟩ := hge i e' j a he ha
              rw [Nat.zero_add, World.cell?_alloc_at _ _ _ _ rfl]; exact hval i j a h3) (fun i e' j a he ha => by
              obtain ⟨h1, h2, h3⟩ := hge i e' j a he ha
              exact (hr.2 _ a _ h3 (hval i j a h3)).oneC (hone _ a h3).1) (fun i e' j a he ha => by
              obtain ⟨h1, h2, h3⟩ := hge i e' j a he ha
              exact ((hr.2 _ a _ h3 (hval i j a h3)).lower 4 (hone _ a h3).2).belowW ((Below.refl _ _).alloc (Nat.le_refl _) _))
            rw [hcl] at this; exact this
        · cases h
      · cases h
    · cases h
  · cases h
theorem aBox_sound (hS : ∀ i, S i → i < w.heap.size) {ρ : Operand → Option AV} {ev : Operand → Value} (hρ : ∀ o x, ρ o = some x → Rep w S m nx x (ev o)) {t : TypeId} {x : Operand} {y : AV} (h : aBox ρ x = some y) :
    ∃ v w', (Instr.box t (ev x)).run P w = .ok v w' ∧ Below w.heap.size w w' ∧ Rep w' S m nx y v := by
  unfold aBox at h
  split at h
  · rename_i v hv
    split at h
    · rename_i hall
      injection h with h; subst h
      have hr := rep_cells (hρ _ _ hv)
      have hval : ∀ (j : Nat) (a : AV), v.cells[j]? = some a → (ev x).cells[j]? = some ((ev x).cells.getD j undef) := fun j a ha => by
        have hlt : j < (ev x).cells.size := by rw [← hr.1]; exact (List.getElem?_eq_some_iff.1 ha).1
        simp [hlt]
      refine ⟨.pointer (some ⟨w.heap.size, 0, none⟩), w.alloc (.cells (ev x).cells t), by simp [Instr.box, newVar, newRow, newObj, Sem.run], (Below.refl _ _).alloc (Nat.le_refl _) _, ?_⟩
      exact .ip w.heap.size 0 (fun j => (ev x).cells.getD j undef) (by simp) (fun hh => absurd (hS _ hh) (by omega)) (fun j a ha => by rw [Nat.zero_add, World.cell?_alloc_at _ _ _ _ rfl]; exact hval j a ha)
        (fun j a ha => ((hr.2 j a _ ha (hval j a ha)).lower 4 (List.all_eq_true.1 hall a (List.mem_of_getElem? ha))).belowW ((Below.refl _ _).alloc (Nat.le_refl _) _))
    · cases h
  · cases h
/-- What is pure yields its value, and nothing that lay there is changed. -/
theorem aPure_sound (hm : Mem F hp nx w S m) {ρ : Operand → Option AV} {ev : Operand → Value} (hρ : ∀ o x, ρ o = some x → Rep w S m nx x (ev o)) (o : Oper) {y : AV} (h : aPure P ρ hp o.op = some y) :
    ∃ v w', (execOp ev o).run P w = .ok (.value v) w' ∧ Below w.heap.size w w' ∧ Rep w' S m nx y v := by
  unfold aPure at h
  split at h
  · rename_i t parts e
    obtain ⟨v, h1, h2⟩ := aBuild_sound hρ h
    exact ⟨v, w, by simp [execOp, e, h1], Below.refl _ _, h2⟩
  · rename_i t n parts e
    obtain ⟨v, w', h1, h2, h3⟩ := aBuildSlice_sound hm.lt hρ h
    exact ⟨v, w', by simp [execOp, e, h1], h2, h3⟩
  · rename_i t x e
    obtain ⟨v, w', h1, h2, h3⟩ := aBox_sound (P := P) (t := t) hm.lt hρ h
    exact ⟨v, w', by simp [execOp, e, h1], h2, h3⟩
  · obtain ⟨v, h1, h2⟩ := aVal_sound hm hρ o h
    exact ⟨v, w, h1, Below.refl _ _, h2⟩
end
end Go.Proofs.Ytgggekjhfdkgkaa.Ab
