/- Abstract runs, part 3: the operations that write nothing do what is said of them. -/
import Derived.Test.YtgggekjhfdkgkaaAbB
namespace Go.Proofs.Ytgggekjhfdkgkaa.Ab
open Go Go.RowKit Go.Shelf
section
variable {P : Program} {w : World} {S : Nat → Prop} {m : Nat → Nat × Nat} {nx : Nat} {F : Fr} {hp : List (Nat × Blk)}

theorem aLoad_sound (hm : Mem F hp nx w S m) {t : TypeId} {x y : AV} {v : Value} (hv : Rep w S m nx x v) (h : aLoad P t hp x = some y) : ∃ u, (Instr.loadAt t v).run P w = .ok u w ∧ Rep w S m nx y u := by
  unfold aLoad at h
  cases hv with
  | ptr b o hb =>
    simp only at h
    cases hg : get b hp with
    | none => rw [hg] at h; cases h
    | some k =>
      rw [hg] at h
      obtain ⟨cur, hc, hr, _⟩ := hm.cells b k hg
      obtain ⟨u, hu, hy⟩ := load_cells (w := w) (g := (m b).1) (o := 0) (off := o) (fun j a ha => by
        obtain ⟨v, hv, hr⟩ := hr j a ha
        exact ⟨v, by rw [Nat.zero_add]; simp [World.cell?, hc, hv], hr⟩) h
      rw [Nat.zero_add] at hu
      exact ⟨u, by simp [Instr.loadAt, Instr.sureAddr, hu], hy⟩
  | ip g off val hg hS hc hr =>
    obtain ⟨u, hu, hy⟩ := load_cells (w := w) (g := g) (o := off) (off := 0) (fun j a ha => ⟨_, hc j a ha, (hr j a ha).up (Nat.zero_le _)⟩) h
    exact ⟨u, by simp only [Instr.loadAt, Instr.sureAddr, Sem.run_bind, Sem.run_pure, Result.andThen_ok]; exact hu, hy⟩
  | _ => cases h

theorem aFieldAt_sound {t : TypeId} {f : Nat} {x y : AV} {v : Value} (hv : Rep w S m nx x v) (h : aFieldAt P t f x = some y) : ∃ u, (Instr.fieldAt t v f).run P w = .ok u w ∧ Rep w S m nx y u := by
  unfold aFieldAt at h
  split at h
  · rename_i fs hu
    split at h
    · rename_i g hf
      split at h
      · cases h
      · rename_i hs
        have hk : ∃ k, sizeT P g.type = some k ∧ k ≠ 0 := by
          cases hk : sizeT P g.type with
          | none => exact absurd (.inr hk) hs
          | some k => exact ⟨k, rfl, fun e => hs (.inl (by rw [hk, e]))⟩
        obtain ⟨k, hk, hk0⟩ := hk
        have hrun : ∀ A : Addr, (Instr.fieldAt t (.pointer (some A)) f).run P w = .ok (.pointer (some (A.add g.offset))) w := fun A => by
          simp [Instr.fieldAt, run_underlying hu, hf, Instr.sureAddr, fieldPlace, run_sizeT hk, hk0]
        cases hv with
        | ptr b o hb =>
          injection h with h; subst h
          refine ⟨_, hrun _, ?_⟩
          rw [Addr.add_mid]; exact .ptr b _ hb
        | ip A off val hg hS hc hr =>
          injection h with h; subst h
          refine ⟨_, hrun _, ?_⟩
          rw [Addr.add_mid]
          exact .ip A _ (fun j => val (g.offset + j)) hg hS (fun j a ha => by rw [List.getElem?_drop] at ha; rw [Nat.add_assoc]; exact hc _ a ha) (fun j a ha => by rw [List.getElem?_drop] at ha; exact hr _ a ha)
        | _ => cases h
    · cases h
  · cases h

theorem aIndexAt_sound {t : TypeId} {x i y : AV} {v u : Value} (hv : Rep w S m nx x v) (hi : Rep w S m nx i u) (h : aIndexAt P t x i = some y) : ∃ r, (Instr.indexAt t v u).run P w = .ok r w ∧ Rep w S m nx y r := by
  unfold aIndexAt at h
  split at h
  · rename_i ki i
    cases hi with
    | s =>
      split at h
      · rename_i e hu
        split at h
        · cases h
        · rename_i k hk
          have hrun : ∀ (A : Addr) (n c : Nat), 0 ≤ i ∧ i < n → (Instr.indexAt t (.slice (some A) n c) (.int ki i)).run P w = .ok (.pointer (some (A.add (i.toNat * k)))) w := fun A n c hlt => by
            simp [Instr.indexAt, run_underlying hu, asIntOf, run_sizeT hk, hlt]
          cases hv with
          | sl0 a cap => simp at h
          | sl g off cap val hg hS hz hc ho hr =>
            simp only at h
            split at h
            · rename_i hh
              obtain ⟨rfl, h0⟩ := hh
              rename_i es
              cases he : es[i.toNat]? with
              | none => rw [he] at h; cases h
              | some e =>
                rw [he] at h; injection h with h; subst h
                have hlt : i.toNat < es.length := (List.getElem?_eq_some_iff.1 he).1
                refine ⟨_, hrun _ _ _ ⟨h0, by omega⟩, ?_⟩
                rw [Addr.add_mid]
                exact .ip g _ (val i.toNat) hg hS (fun j a ha => hc _ e j a he ha) (fun j a ha => hr _ e j a he ha)
            · cases h
          | own b n hb =>
            simp only at h
            split at h
            · rename_i hh
              injection h with h; subst h
              refine ⟨_, hrun _ _ _ hh, ?_⟩
              rw [Addr.add_mid, Nat.zero_add]; exact .ptr b _ hb
            · cases h
          | _ => cases h
      · rename_i n e hu
        split at h
        · cases h
        · rename_i k hk
          split at h
          · rename_i hh
            have hrun : ∀ (A : Addr), (Instr.indexAt t (.pointer (some A)) (.int ki i)).run P w = .ok (.pointer (some (A.add (i.toNat * k)))) w := fun A => by
              simp [Instr.indexAt, run_underlying hu, asIntOf, run_sizeT hk, hh, Instr.sureAddr]
            cases hv with
            | ptr b o hb =>
              injection h with h; subst h
              refine ⟨_, hrun _, ?_⟩
              rw [Addr.add_mid]; exact .ptr b _ hb
            | ip A off val hg hS hc hr =>
              injection h with h; subst h
              refine ⟨_, hrun _, ?_⟩
              rw [Addr.add_mid]
              exact .ip A _ (fun j => val (i.toNat * k + j)) hg hS (fun j a ha => by rw [List.getElem?_drop] at ha; rw [Nat.add_assoc]; exact hc _ a ha) (fun j a ha => by rw [List.getElem?_drop] at ha; exact hr _ a ha)
            | _ => cases h
          · cases h
      · cases h
  · cases h

theorem aField_sound {t : TypeId} {f : Nat} {x y : AV} {v : Value} (hv : Rep w S m nx x v) (h : aField P t f x = some y) : ∃ u, (Instr.field t v f).run P w = .ok u w ∧ Rep w S m nx y u := by
  unfold aField at h
  split at h
  · split at h
    · rename_i fs hu
      split at h
      · rename_i g hf
        cases hv with
        | agg vs hl hr =>
          obtain ⟨u, h1, h2⟩ := part_sound hl hr h
          exact ⟨u, by simp [Instr.field, run_underlying hu, hf, asAgg, h1], h2⟩
      · cases h
    · cases h
  · cases h

theorem aIndex_sound {t : TypeId} {x i y : AV} {v u : Value} (hv : Rep w S m nx x v) (hi : Rep w S m nx i u) (h : aIndex P t x i = some y) : ∃ r, (Instr.index t v u).run P w = .ok r w ∧ Rep w S m nx y r := by
  unfold aIndex at h
  split at h
  · rename_i ki i
    cases hi with
    | s =>
      split at h
      · split at h
        · rename_i n e hu
          split at h
          · rename_i k hk
            split at h
            · rename_i hh
              cases hv with
              | agg vs hl hr =>
                obtain ⟨u, h1, h2⟩ := part_sound hl hr h
                exact ⟨u, by simp [Instr.index, asIntOf, run_underlying hu, hh, run_sizeT hk, h1], h2⟩
            · cases h
          · cases h
        · cases h
      · rename_i s
        split at h
        · rename_i hu
          split at h
          · rename_i h0
            cases hv with
            | s =>
              cases hb : s[i.toNat]? with
              | none => rw [hb] at h; cases h
              | some b =>
                rw [hb] at h; injection h with h; subst h
                exact ⟨.int .u8 b.toNat, by simp [Instr.index, asIntOf, run_underlying hu, h0, hb], .s _⟩
          · cases h
        · cases h
      · cases h
  · cases h

theorem run_equal_bool {t : TypeId} (a b : Bool) (hu : P.underlying t = some .bool) : (Op.equal t (.bool a) (.bool b)).run P w = .ok (a == b) w := by
  show (Op.equalIn (9999 + 1) t (.bool a) (.bool b)).run P w = _
  rw [Op.equalIn, Sem.run_bind, run_underlying hu]
  rfl
theorem aBin_sound {op : BinOp} {t : TypeId} {x y r : Value} (h : aBin P op t x y = some r) (a b : Operand) : (do eqGuard op t a b x y; binOp op t x y : Sem Value).run P w = .ok r w := by
  unfold aBin at h
  split at h
  · rename_i k a k' b
    split at h
    · rename_i hsh
      split at h
      · rename_i hb
        injection h with h; subst h
        have hb' : ¬ (b < 0) := by omega
        cases op <;> first
          | (simp [aShift] at hsh; done)
          | simp [eqGuard, binOp, Op.shift, hb']
      · cases h
    · rename_i hsh
      split at h
      · rename_i hk
        subst hk
        cases op <;> simp only [reduceCtorEq] at h <;> first
          | (simp [aShift] at hsh; done)
          | (injection h with h; subst h; simp [eqGuard, binOp, Op.intArith, Op.intCmp]; done)
          | (injection h with h; subst h; simp [eqGuard, binOp, Op.intBits]; done)
          | (split at h
             · cases h
             · rename_i hb; injection h with h; subst h; simp [eqGuard, binOp, Op.intDiv, hb])
      · cases h
  · rename_i a b
    split at h
    · rename_i hu
      injection h with h; subst h
      have e : (binOp .eql t (.bool a) (.bool b)) = (do pure (.bool (← Op.equal t (.bool a) (.bool b)))) := rfl
      rw [Sem.run_bind, e]
      simp [eqGuard, run_equal_bool a b hu]
    · rename_i hu
      injection h with h; subst h
      have e : (binOp .neq t (.bool a) (.bool b)) = (do pure (.bool (!(← Op.equal t (.bool a) (.bool b))))) := rfl
      rw [Sem.run_bind, e]
      simp [eqGuard, run_equal_bool a b hu]
    · cases h
  · rename_i a b
    cases op <;> simp only [reduceCtorEq] at h <;> first
      | (injection h with h; subst h; simp [eqGuard, binOp, Op.stringOp]; done)
      | (split at h
         · rename_i hb
           injection h with h; subst h
           have : ¬ (9223372036854775807 < (a.size : Int) + b.size) := by omega
           simp [eqGuard, binOp, Op.stringOp, IntKind.max, IntKind.bits, IntKind.signed, this]
         · cases h)
  · cases h
theorem aUn_sound {op : UnOp} {x r : Value} (h : aUn op x = some r) : (Op.unary op x).run P w = .ok r w := by
  unfold aUn at h
  split at h
  · injection h with h; subst h; simp [Op.unary, Op.intArith]
  · injection h with h; subst h; simp [Op.unary]
  · cases h
theorem aConv_sound {src dst : TypeId} {x r : Value} (h : aConv P src dst x = some r) : (convert src dst x).run P w = .ok r w := by
  unfold aConv at h
  split at h
  · rename_i h1 h2
    injection h with h; subst h
    simp [convert, run_underlying h1, run_underlying h2, Conv.intToInt]
  · rename_i h1 h2
    injection h with h; subst h
    simp [convert, run_underlying h1, run_underlying h2]
  · cases h
theorem aLen_sound {t : TypeId} {x y : AV} {v : Value} {ty : TypeId} (hv : Rep w S m nx x v) (h : aLen P t x = some y) : ∃ u, (Builtin.len_ #[t] ty #[v]).run P w = .ok u w ∧ Rep w S m nx y u := by
  unfold aLen at h
  split at h
  · rename_i e hu
    cases hv with
    | sl0 a cap => injection h with h; subst h; exact ⟨_, by simp [Builtin.len_, run_underlying hu, goInt], .s _⟩
    | sl g off cap val hg hS hz hc ho hr => injection h with h; subst h; exact ⟨_, by simp [Builtin.len_, run_underlying hu, goInt], .s _⟩
    | own b n hb => injection h with h; subst h; exact ⟨_, by simp [Builtin.len_, run_underlying hu, goInt], .s _⟩
    | s v =>
      cases v <;> simp only [reduceCtorEq] at h
      injection h with h; subst h; exact ⟨_, by simp [Builtin.len_, run_underlying hu, goInt], .s _⟩
    | _ => cases h
  · rename_i hu
    cases hv with
    | s v =>
      cases v <;> simp only [reduceCtorEq] at h
      injection h with h; subst h; exact ⟨_, by simp [Builtin.len_, run_underlying hu, goInt], .s _⟩
    | _ => cases h
  · rename_i n e hu
    injection h with h; subst h
    exact ⟨_, by simp [Builtin.len_, run_underlying hu, goInt], .s _⟩
  · cases h
end
end Go.Proofs.Ytgggekjhfdkgkaa.Ab
