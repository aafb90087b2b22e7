/- Abstract runs: a drawn region whose variables may be made at any time. -/
import Derived.Test.YtgggekjhfdkgkaaAbM3
namespace Go.Proofs.Ytgggekjhfdkgkaa.Ab
open Go Go.RowKit Go.Shelf
section
variable {P : Program} {n : Nat} {F : Fr} {ops : Array Oper} {hp : List (Nat × Blk)} {nx : Nat}
theorem drawE_L {k e : Nat} (h : drawOkE ops k e = true) : drawOkL ops (k + e) = true := by
  unfold drawOkE at h
  unfold drawOkL
  simp only [Bool.and_eq_true] at h
  refine List.all_eq_true.2 fun i hi => ?_
  have h1 := List.all_eq_true.1 h.2 i hi
  have hil := List.mem_range.1 hi
  cases ho : ops[i]? with
  | none => rw [ho] at h1; exact h1
  | some o =>
    rw [ho] at h1
    simp only [Bool.and_eq_true] at h1 ⊢
    refine ⟨h1.1, ?_⟩
    by_cases hik : i < k
    · have h2 := h1.2
      rw [if_pos hik] at h2
      rw [if_neg (by omega)]
      refine List.all_eq_true.2 fun j hj => ?_
      have h3 := List.all_eq_true.1 h2 j hj
      cases hd : (ops[j]?).bind (·.dst) with
      | none => simp
      | some d =>
        rw [hd] at h3
        simp only [Bool.or_eq_true, Bool.and_eq_true] at h3 ⊢
        rcases h3 with h3 | ⟨h4, h5⟩
        · exact .inl h3
        · exact .inr ⟨h4, h5.imp id (fun h6 => h6.2)⟩
    · have h2 := h1.2
      rw [if_neg hik] at h2
      by_cases hie : i < k + e
      · rw [if_pos hie] at h2
        rw [if_neg (by omega)]
        simp only [Bool.and_eq_true] at h2
        have hal := h2.1
        unfold isAlloc at hal
        rw [ho] at hal
        simp only [Bool.and_eq_true, Option.isNone_iff_eq_none] at hal
        obtain ⟨⟨hg, _⟩, hop⟩ := hal
        have hlook : o.looksAt ops = [] := by
          unfold Oper.looksAt
          rw [hg]
          cases hq : o.op with
          | alloc t => rfl
          | _ => rw [hq] at hop; simp at hop
        refine List.all_eq_true.2 fun j hj => ?_
        have h3 := List.all_eq_true.1 h2.2 j hj
        cases hd : (ops[j]?).bind (·.dst) with
        | none => simp
        | some d =>
          rw [hd] at h3
          simp only [Bool.or_eq_true, Bool.and_eq_true] at h3 ⊢
          exact h3.imp id (fun h4 => ⟨h4, by rw [hlook]; simp⟩)
      · rw [if_neg hie] at h2
        rw [if_pos (by omega)]
        refine List.all_eq_true.2 fun j hj => ?_
        have h3 := List.all_eq_true.1 h2 j hj
        simp only [Bool.or_eq_true, Bool.and_eq_true, decide_eq_true_eq] at h3 ⊢
        exact h3.imp id (fun ⟨⟨h4, h5⟩, h6⟩ => ⟨⟨by omega, h5⟩, h6⟩)
theorem alloc_at {k e i : Nat} (h : drawOkE ops k e = true) (h1 : k ≤ i) (h2 : i < k + e) : ∃ o t d, ops[i]? = some o ∧ o.guard = none ∧ o.op = .alloc t ∧ o.dst = some d ∧ (∀ j o' d', ops[j]? = some o' → j ≠ i → o'.dst = some d' → d ≠ d') ∧ ∀ j o', j < k → ops[j]? = some o' → d ∉ o'.looksAt ops := by
  unfold drawOkE at h
  simp only [Bool.and_eq_true, decide_eq_true_eq] at h
  obtain ⟨hks, hall⟩ := h
  have hil : i < ops.size := by omega
  have h3 := List.all_eq_true.1 hall i (List.mem_range.2 hil)
  have ho : ops[i]? = some ops[i] := Array.getElem?_eq_getElem hil
  rw [ho] at h3
  simp only [Bool.and_eq_true] at h3
  have h4 := h3.2
  rw [if_neg (by omega), if_pos h2] at h4
  simp only [Bool.and_eq_true] at h4
  have hal := h4.1
  unfold isAlloc at hal
  rw [ho] at hal
  simp only [Bool.and_eq_true, Option.isNone_iff_eq_none] at hal
  obtain ⟨⟨hg, hd⟩, hop⟩ := hal
  obtain ⟨d, hd⟩ := Option.isSome_iff_exists.1 hd
  obtain ⟨t, ht⟩ : ∃ t, ops[i].op = .alloc t := by
    cases hq : ops[i].op with
    | alloc t => exact ⟨t, rfl⟩
    | _ => rw [hq] at hop; simp at hop
  refine ⟨_, t, d, ho, hg, ht, hd, fun j o' d' hj hne hd' => ?_, fun j o' hj hjo hm => ?_⟩
  · have hjl : j < ops.size := (Array.getElem?_eq_some_iff.1 hj).1
    have h5 := List.all_eq_true.1 h4.2 j (List.mem_range.2 hjl)
    rw [hj] at h5
    simp only [Option.bind_some, hd', Bool.or_eq_true, beq_iff_eq, hne, false_or, bne_iff_ne, ne_eq, hd] at h5
    intro e; subst e; exact h5 rfl
  · have hjl : j < ops.size := (Array.getElem?_eq_some_iff.1 hjo).1
    have h5 := List.all_eq_true.1 hall j (List.mem_range.2 hjl)
    rw [hjo] at h5
    simp only [Bool.and_eq_true] at h5
    have h6 := h5.2
    rw [if_pos hj] at h6
    have h7 := List.all_eq_true.1 h6 i (List.mem_range.2 hil)
    rw [ho] at h7
    have hne : (i == j) = false := by simp; omega
    have hc : (o'.looksAt ops).contains d = true := by simpa using hm
    have hk1 : decide (k ≤ i) = true := decide_eq_true h1
    have hk2 : decide (i < k + e) = true := decide_eq_true h2
    simp only [Option.bind_some, hd, hne, hc, hk1, hk2, Bool.not_true, Bool.and_true, Bool.false_or, Bool.false_and, Bool.and_false] at h7
    cases h7
/-- As SimE, and in some slots there are pointers to variables that were made and nobody has touched. -/
def SimR (F : Fr) (E : Nat → Option AV) (hp : List (Nat × Blk)) (nx : Nat) (R : Nat → Option (TypeId × Array Value)) (a : Act) (w : World) : Prop :=
  a.defers = [] ∧ a.tmps.size = F.n ∧ ∃ (S : Nat → Prop) (m : Nat → Nat × Nat) (γ : Nat → Nat), Mem F hp nx w S m ∧ (∀ t x, E t = some x → R t = none → t < F.n ∧ Rep w S m nx x (a.tmps.getD t undef)) ∧
    (∀ d r, R d = some r → d < F.n ∧ a.tmps.getD d undef = .pointer (some ⟨γ d, 0, none⟩) ∧ S (γ d) ∧ F.w0.heap.size ≤ γ d ∧ w.heap[γ d]? = some (.cells r.2 r.1 (0, 0)) ∧ (∀ b k, get b hp = some k → (m b).1 ≠ γ d)) ∧
    (∀ d d' r r', R d = some r → R d' = some r' → γ d = γ d' → d = d')
theorem Mem.wider {w w' : World} {S : Nat → Prop} {m : Nat → Nat × Nat} (h : Mem F hp nx w S m) (hb : Below w.heap.size w w') (hlt : w.heap.size < w'.heap.size) : Mem F hp nx w' (fun i => S i ∨ i = w.heap.size) m := by
  have h' := h.below hb
  have hup : ∀ x v, Rep w S m nx x v → Rep w' (fun i => S i ∨ i = w.heap.size) m nx x v := fun x v hr => hr.mono (fun i hi hS => ⟨hb.block i hi, fun hh => hh.elim hS (fun e => by omega)⟩) (fun _ _ => rfl) (Nat.le_refl _)
  refine ⟨h'.os, h'.tape, h'.output, h'.size, h'.keep, fun i hi => ⟨fun hh => hh.elim (h.old i hi).1 (fun e => by have := h.size; omega), fun h1 h2 => .inl ((h.old i hi).2 h1 h2)⟩, h'.agree, h'.nile, fun i hi => hi.elim (fun hh => h'.lt i hh) (fun e => by omega), fun b k hg => ⟨(h'.live b k hg).1, .inl (h'.live b k hg).2.1, (h'.live b k hg).2.2⟩, fun b k hg => ?_, h'.inj⟩
  obtain ⟨cur, h1, h2, h3⟩ := h.cells b k hg
  exact ⟨cur, (hb.block _ (h.lt _ (h.live b k hg).2.1)).trans h1, fun j x hx => by obtain ⟨v, hv, hr⟩ := h2 j x hx; exact ⟨v, hv, hup _ _ hr⟩, h3⟩
theorem stepV_soundR (hn : F.n = n) {E : Nat → Option AV} {R : Nat → Option (TypeId × Array Value)} {i : Nat} {o : Oper} (ho : ops[i]? = some o) {x : AV} {a : Act} {w : World} {K' : Act → World → Prop} {Q : Exit → Act → World → Prop} (h : StepV P n ops hp nx E o x)
    (hl : ∀ d r, R d = some r → d ∉ o.looksAt ops ∧ o.dst ≠ some d) (hs : SimR F E hp nx R a w) (hK : ∀ a' w', SimR F (updE E o.dst x) hp nx R a' w' → K' a' w') : wpOp P ops Q i K' a w := by
  obtain ⟨hd, htn, S, m, γ, hm, hE, hR, hinj⟩ := hs
  let E1 : Nat → Option AV := fun t => match R t with
    | some _ => some (.s (.pointer (some ⟨γ t, 0, none⟩)))
    | none => E t
  have hE1 : ∀ t r, R t = some r → E1 t = some (.s (.pointer (some ⟨γ t, 0, none⟩))) := fun t r hr => by
    show (match R t with | some _ => _ | none => _) = _; rw [hr]
  have hE0 : ∀ t, R t = none → E1 t = E t := fun t hr => by
    show (match R t with | some _ => _ | none => _) = _; rw [hr]
  have h1 : StepV P n ops hp nx E1 o x := step_congr (fun t ht => by
    cases hr : R t with
    | none => exact hE0 t hr
    | some r => exact absurd ht (hl t r hr).1) h
  let F' : Fr := ⟨w, Lv hp m, S, F.n, m, nx⟩
  have hm0 := hm.sub (hp1 := hp) (fun _ _ h => h)
  have hm1 : Mem F' hp nx w S m := ⟨hm0.os, hm0.tape, hm0.output, hm0.size, hm0.keep, hm0.old, hm0.agree, hm0.nile, hm0.lt, hm0.live, hm0.cells, hm0.inj⟩
  refine stepV_sound (F := F') hn ho h1 ⟨hd, htn, S, m, hm1, fun t y hy => ?_⟩ (fun a' w' ⟨hd', htn', S', m', hm', hE'⟩ => hK a' w' ?_)
  · cases hr : R t with
    | none => rw [hE0 t hr] at hy; exact hE t y hy hr
    | some r => rw [hE1 t r hr] at hy; injection hy with hy; subst hy; rw [(hR t r hr).2.1]; exact ⟨(hR t r hr).1, .s _⟩
  · have hm2 : Mem ⟨w, Lv hp m, S, 0, m, nx⟩ hp nx w' S' m' := ⟨hm'.os, hm'.tape, hm'.output, hm'.size, hm'.keep, hm'.old, hm'.agree, hm'.nile, hm'.lt, hm'.live, hm'.cells, hm'.inj⟩
    obtain ⟨j1, _⟩ := hm.join (hp1 := hp) (fun _ _ h => h) hm2 (fun b k hg _ => by rw [hg]; rfl)
    have j2 : Mem F hp nx w' S' m' := j1.fewer (fun b k hg => by rw [get_append, hg])
    refine ⟨hd', htn', S', m', γ, j2, fun t y hy hr => ?_, fun d r hr => ?_, hinj⟩
    · have : updE E1 o.dst x t = some y := by
        unfold updE at hy ⊢
        split at hy
        · rename_i e; rw [if_pos e]; exact hy
        · rename_i e; rw [if_neg e, hE0 t hr]; exact hy
      exact hE' t y this
    · obtain ⟨r1, r2, r3, r4, r5, r6⟩ := hR d r hr
      have hlt : γ d < w.heap.size := (Array.getElem?_eq_some_iff.1 r5).1
      have hnl : ¬ Lv hp m (γ d) := fun ⟨b, k, hb, he⟩ => r6 b k hb he
      have hptr := (hE' d (.s (.pointer (some ⟨γ d, 0, none⟩))) (by unfold updE; rw [if_neg (hl d r hr).2]; exact hE1 d r hr)).2
      refine ⟨r1, ?_, (hm'.old _ hlt).2 r3 hnl, r4, (hm'.keep _ hlt hnl).trans r5, fun b k hg => ?_⟩
      · generalize a'.tmps.getD d undef = u at *
        cases hptr; rfl
      · rw [hm'.agree b (hm.live b k hg).1]; exact r6 b k hg
theorem allocR (hn : F.n = n) {E : Nat → Option AV} {R : Nat → Option (TypeId × Array Value)} {i : Nat} {o : Oper} (ho : ops[i]? = some o) (hg : o.guard = none) {t : TypeId} (hop : o.op = .alloc t) {d : Nat} (hd : o.dst = some d) (hdn : d < n) {z : List AV} (hz : zeroT P t = some z) (hRd : R d = none)
    {a : Act} {w : World} {K' : Act → World → Prop} {Q : Exit → Act → World → Prop} (hs : SimR F E hp nx R a w) (hK : ∀ zs : Array Value, z = zs.toList.map .s → ∀ a' w', SimR F E hp nx (fun x => if x = d then some (t, zs) else R x) a' w' → K' a' w') : wpOp P ops Q i K' a w := by
  obtain ⟨hdf, htn, S, m, γ, hm, hE, hR, hinj⟩ := hs
  obtain ⟨zv, hr, he⟩ := run_zeroT hz w
  have hb : Below w.heap.size w (w.alloc (.cells zv.cells t)) := (Below.refl _ _).alloc (Nat.le_refl _) _
  have hnew := heap_alloc_new w (.cells zv.cells t)
  have hlt : w.heap.size < (w.alloc (.cells zv.cells t)).heap.size := (Array.getElem?_eq_some_iff.1 hnew).1
  unfold wpOp
  rw [ho]
  simp only
  rw [if_pos (by simp [Region.wanted, hg])]
  refine .inl ?_
  have hrun : (execOp a.eval o).run P w = .ok (.value (.pointer (some ⟨w.heap.size, 0, none⟩))) (w.alloc (.cells zv.cells t)) := by
    simp [execOp, hop, Instr.alloc, hr, newVar, newRow, newObj, Sem.run]
  unfold Oper.wp
  rw [hrun]
  have hda : d < a.tmps.size := by rw [htn, hn]; exact hdn
  have hput : ∀ x, x ≠ d → (a.put o.dst (.pointer (some ⟨w.heap.size, 0, none⟩))).tmps.getD x undef = a.tmps.getD x undef := fun x hx => by
    rw [hd]
    simp only [Act.put]
    rw [Array.getD_eq_getD_getElem?, Array.getElem?_setIfInBounds_ne (Ne.symm hx), ← Array.getD_eq_getD_getElem?]
  have hputd : (a.put o.dst (.pointer (some ⟨w.heap.size, 0, none⟩))).tmps.getD d undef = .pointer (some ⟨w.heap.size, 0, none⟩) := by
    rw [hd]
    simp only [Act.put]
    rw [Array.getD_eq_getD_getElem?, Array.getElem?_setIfInBounds_self, if_pos hda]; rfl
  refine hK zv.cells he _ _ ⟨by rw [hd]; exact hdf, by rw [hd]; simp [Act.put, htn], fun i => S i ∨ i = w.heap.size, m, fun x => if x = d then w.heap.size else γ x, hm.wider hb hlt, fun t' x hx hr' => ?_, fun d' r hr' => ?_, fun d1 d2 r1 r2 h1 h2 hγ => ?_⟩
  · dsimp only at hr'
    have hne : t' ≠ d := fun e => by rw [if_pos e] at hr'; cases hr'
    rw [if_neg hne] at hr'
    obtain ⟨h1, h2⟩ := hE t' x hx hr'
    rw [hput t' hne]
    exact ⟨h1, h2.mono (fun i hi hS => ⟨hb.block i hi, fun hh => hh.elim hS (fun e => by omega)⟩) (fun _ _ => rfl) (Nat.le_refl _)⟩
  · dsimp only at hr' ⊢
    by_cases hne : d' = d
    · subst hne
      rw [if_pos rfl] at hr'
      injection hr' with hr'; subst hr'
      simp only [if_true]
      exact ⟨by rw [hn]; exact hdn, hputd, .inr trivial, hm.size, hnew, fun b k hb' => by have := hm.lt _ (hm.live b k hb').2.1; omega⟩
    · rw [if_neg hne] at hr'
      simp only [if_neg hne]
      obtain ⟨r1, r2, r3, r4, r5, r6⟩ := hR d' r hr'
      have hl : γ d' < w.heap.size := (Array.getElem?_eq_some_iff.1 r5).1
      exact ⟨r1, by rw [hput d' hne]; exact r2, .inl r3, r4, (hb.block _ hl).trans r5, r6⟩
  · by_cases e1 : d1 = d <;> by_cases e2 : d2 = d
    · rw [e1, e2]
    · simp only [if_pos e1, if_neg e2] at hγ h1 h2
      have := (Array.getElem?_eq_some_iff.1 (hR d2 r2 h2).2.2.2.2.1).1; omega
    · simp only [if_neg e1, if_pos e2] at hγ h1 h2
      have := (Array.getElem?_eq_some_iff.1 (hR d1 r1 h1).2.2.2.2.1).1; omega
    · simp only [if_neg e1, if_neg e2] at hγ h1 h2
      exact hinj d1 d2 r1 r2 h1 h2 hγ
/-- A variable that was made becomes an own block. -/
theorem SimR.take {E : Nat → Option AV} {R : Nat → Option (TypeId × Array Value)} {a : Act} {w : World} {d : Nat} {t : TypeId} {zs : Array Value} (hs : SimR F E hp nx R a w) (hR : R d = some (t, zs)) :
    SimR F (updE E (some d) (.ptr nx 0)) ((nx, ⟨t, 0, zs.toList.map .s⟩) :: hp) (nx + 1) (fun x => if x = d then none else R x) a w := by
  obtain ⟨hdf, htn, S, m, γ, hm, hE, hRR, hinj⟩ := hs
  obtain ⟨r1, r2, r3, r4, r5, r6⟩ := hRR d _ hR
  have hnb : ∀ b k, get b hp = some k → b ≠ nx := fun b k hg => by have := (hm.live b k hg).1; omega
  have hup : ∀ x v, Rep w S m nx x v → Rep w S (fun b => if b = nx then (γ d, 0) else m b) (nx + 1) x v := fun x v hr => hr.mono (fun i hi hS => ⟨rfl, hS⟩) (fun b hb => if_neg (by omega)) (by omega)
  refine ⟨hdf, htn, S, fun b => if b = nx then (γ d, 0) else m b, γ, ⟨hm.os, hm.tape, hm.output, hm.size, hm.keep, hm.old, fun b hb => (if_neg (by have := hm.nile; omega)).trans (hm.agree b hb), by have := hm.nile; omega, hm.lt, fun b k hg => ?_, fun b k hg => ?_, fun b b' k k' hg hg' he => ?_⟩, fun t' x hx hr => ?_, fun d' r hr => ?_, fun d1 d2 q1 q2 h1 h2 hγ => ?_⟩
  · unfold get at hg
    split at hg
    · rename_i e; subst e
      simp only [if_true]
      exact ⟨by omega, r3, .inr r4⟩
    · rw [if_neg (hnb b k hg)]
      have := hm.live b k hg
      exact ⟨by omega, this.2⟩
  · unfold get at hg
    split at hg
    · rename_i e; subst e
      injection hg with hg; subst hg
      simp only [if_true]
      refine ⟨zs, r5, fun j x hx => ?_, fun h => absurd rfl h⟩
      rw [List.getElem?_map] at hx
      obtain ⟨v, hv, rfl⟩ := map_some' hx
      exact ⟨v, by simpa using hv, .s v⟩
    · rw [if_neg (hnb b k hg)]
      obtain ⟨cur, c1, c2, c3⟩ := hm.cells b k hg
      exact ⟨cur, c1, fun j x hx => by obtain ⟨v, h1, h2⟩ := c2 j x hx; exact ⟨v, h1, hup _ _ h2⟩, c3⟩
  · unfold get at hg hg'
    split at hg
    · rename_i e; subst e
      split at hg'
      · rename_i e; exact e.symm
      · rw [if_pos rfl, if_neg (hnb b' k' hg')] at he
        exact absurd he.symm (r6 b' k' hg')
    · split at hg'
      · rename_i e; subst e
        rw [if_pos rfl, if_neg (hnb b k hg)] at he
        exact absurd he (r6 b k hg)
      · rw [if_neg (hnb b k hg), if_neg (hnb b' k' hg')] at he
        exact hm.inj b b' k k' hg hg' he
  · unfold updE at hx
    by_cases e : t' = d
    · subst e
      rw [if_pos rfl] at hx
      injection hx with hx; subst hx
      refine ⟨r1, ?_⟩
      rw [r2]
      have := Rep.ptr (w := w) (S := S) (m := fun b => if b = nx then (γ t', 0) else m b) (nx := nx + 1) nx 0 (by omega)
      simpa using this
    · rw [if_neg (by simp; exact fun e' => e e'.symm)] at hx
      dsimp only at hr
      rw [if_neg e] at hr
      obtain ⟨h1, h2⟩ := hE t' x hx hr
      exact ⟨h1, hup _ _ h2⟩
  · dsimp only at hr ⊢
    by_cases e : d' = d
    · rw [if_pos e] at hr; cases hr
    · rw [if_neg e] at hr
      obtain ⟨q1, q2, q3, q4, q5, q6⟩ := hRR d' r hr
      refine ⟨q1, q2, q3, q4, q5, fun b k hg => ?_⟩
      unfold get at hg
      split at hg
      · rename_i e'; subst e'
        simp only [if_true]
        exact fun hh => e (hinj d' d r _ hr hR hh.symm)
      · rw [if_neg (hnb b k hg)]; exact q6 b k hg
  · dsimp only at h1 h2
    by_cases e1 : d1 = d
    · rw [if_pos e1] at h1; cases h1
    · by_cases e2 : d2 = d
      · rw [if_pos e2] at h2; cases h2
      · rw [if_neg e1] at h1; rw [if_neg e2] at h2
        exact hinj d1 d2 q1 q2 h1 h2 hγ
end
end Go.Proofs.Ytgggekjhfdkgkaa.Ab
