/- Abstract runs: a drawn region some of whose operations may come late. -/
import Derived.Test.YtgggekjhfdkgkaaAbM
namespace Go.Proofs.Ytgggekjhfdkgkaa.Ab
open Go Go.RowKit Go.Shelf
section
variable {P : Program} {n : Nat} {F : Fr} {ops : Array Oper}
/-- Who comes before is listed, where what is listed is closed. -/
def Before (ops : Array Oper) (i j : Nat) : Prop := ∀ Lst : Nat → Prop, (∀ q o, ops[q]? = some o → Lst q → ∀ e ∈ o.after, Region.binds .any e = true → Lst e.on) → (∀ o, ops[i]? = some o → ∀ e ∈ o.after, Region.binds .any e = true → Lst e.on) → Lst j
theorem maskO_before {cl : List Nat} (hcl : ∀ i j, (cl.getD i 0).testBit j = true → Before ops i j) {i : Nat} {o : Oper} (ho : ops[i]? = some o) {j : Nat} (h : (maskO cl o).testBit j = true) : Before ops i j := by
  unfold maskO at h
  have key : ∀ (l : List Edge) (m : Nat), (∀ e ∈ l, e ∈ o.after) → (m.testBit j = true → Before ops i j) → (l.foldl (fun m e => if Region.binds .any e = true then m ||| (1 <<< e.on) ||| cl.getD e.on 0 else m) m).testBit j = true → Before ops i j := by
    intro l
    induction l with
    | nil => intro m _ hm h; exact hm h
    | cons e l ih =>
      intro m hl hm h
      rw [List.foldl_cons] at h
      refine ih _ (fun e' he' => hl e' (List.mem_cons_of_mem _ he')) (fun h2 => ?_) h
      by_cases hb : Region.binds .any e = true
      · rw [if_pos hb] at h2
        rw [Nat.testBit_or, Nat.testBit_or, Bool.or_eq_true, Bool.or_eq_true] at h2
        rcases h2 with (h2 | h2) | h2
        · exact hm h2
        · have hj : j = e.on := by
            rw [Nat.testBit_shiftLeft] at h2
            simp only [Bool.and_eq_true, decide_eq_true_eq] at h2
            have h3 := h2.2
            rcases Nat.eq_zero_or_pos (j - e.on) with h4 | h4
            · omega
            · rw [Nat.testBit_lt_two_pow (Nat.one_lt_two_pow (by omega))] at h3; cases h3
          subst hj
          exact fun Lst _ hp => hp o ho e (hl e List.mem_cons_self) hb
        · exact fun Lst hc hp => hcl e.on j h2 Lst hc (fun o' ho' e' he' hb' => hc e.on o' ho' (hp o ho e (hl e List.mem_cons_self) hb) e' he' hb')
      · rw [if_neg hb] at h2; exact hm h2
  exact key o.after.toList 0 (fun e he => by simpa using he) (fun h0 => by simp at h0) h
theorem masks_before : ∀ (l : List Oper) (cl : List Nat), l = ops.toList.drop cl.length → (∀ i j, (cl.getD i 0).testBit j = true → Before ops i j) → ∀ i j, ((masksFrom l cl).getD i 0).testBit j = true → Before ops i j
  | [], cl, _, h, i, j, hb => h i j hb
  | o :: l, cl, hl, h, i, j, hb => by
    have ho : ops[cl.length]? = some o := by
      have : (ops.toList.drop cl.length)[0]? = some o := by rw [← hl]; rfl
      rw [List.getElem?_drop] at this; simpa using this
    refine masks_before l (cl ++ [maskO cl o]) ?_ ?_ i j hb
    · have := congrArg List.tail hl
      simpa [List.tail_drop] using this
    · intro i' j' hb'
      rw [List.getD_eq_getElem?_getD] at hb'
      rcases Nat.lt_trichotomy i' cl.length with h1 | h1 | h1
      · rw [List.getElem?_append_left h1, ← List.getD_eq_getElem?_getD] at hb'; exact h i' j' hb'
      · subst h1
        rw [List.getElem?_append_right (Nat.le_refl _)] at hb'
        simp at hb'
        exact maskO_before h ho hb'
      · rw [List.getElem?_eq_none (by simp; omega)] at hb'; simp at hb'
theorem edgeT_before {i j : Nat} (h : edgeT ops i j = true) : Before ops i j := masks_before ops.toList [] rfl (fun i j h => by simp at h) i j h
theorem edgeT_ready {i j : Nat} {listed : Array Bool} (hcl : ∀ i o, ops[i]? = some o → listed.getD i false = true → ∀ e ∈ o.after, Region.binds .any e = true → listed.getD e.on false = true) (hr : i ∈ Region.ready .any ops listed) (he : edgeT ops i j = true) : listed.getD j false = true := by
  obtain ⟨_, o, ho, hall⟩ := mem_ready.1 hr
  exact edgeT_before he (fun q => listed.getD q false = true) (fun q o' ho' hq e he' hb => hcl q o' ho' hq e he' hb) (fun o' ho' e he' hb => by rw [ho] at ho'; injection ho' with ho'; subst ho'; exact hall e he' hb)
theorem drawOkL_at {k i : Nat} (h : drawOkL ops k = true) {o : Oper} (ho : ops[i]? = some o) : (∀ e ∈ o.after, Region.binds .any e = true → e.on < i) ∧ (k ≤ i → ∀ j, j < i → edgeT ops i j = true ∨ (j < k ∧ late ops j = true ∧ ∀ o' d, ops[j]? = some o' → o'.dst = some d → d ∉ o.looksAt ops ∧ o.dst ≠ some d)) ∧
    (i < k → ∀ j o' d, ops[j]? = some o' → j ≠ i → o'.dst = some d → o.dst ≠ some d ∧ (d ∈ o.looksAt ops → (j < i → edgeT ops i j = true) ∧ (i < j → edgeT ops j i = true))) := by
  have hlt : i < ops.size := (Array.getElem?_eq_some_iff.1 ho).1
  unfold drawOkL at h
  have h1 := List.all_eq_true.1 h i (List.mem_range.2 hlt)
  rw [ho] at h1
  simp only [Bool.and_eq_true] at h1
  obtain ⟨ha, hb⟩ := h1
  refine ⟨fun e he hbe => ?_, fun hk j hj => ?_, fun hk j o' d hj hne hd => ?_⟩
  · have := (Array.all_eq_true_iff_forall_mem.1 ha) e he
    simpa [hbe] using this
  · rw [if_pos hk] at hb
    have h2 := List.all_eq_true.1 hb j (List.mem_range.2 hj)
    simp only [Bool.or_eq_true, Bool.and_eq_true, decide_eq_true_eq] at h2
    rcases h2 with h2 | ⟨⟨h3, h4⟩, h5⟩
    · exact .inl h2
    · refine .inr ⟨h3, h4, fun o' d ho' hd => ?_⟩
      rw [ho'] at h5
      simp only [Option.bind_some, hd, Bool.and_eq_true, Bool.not_eq_true', bne_iff_ne, ne_eq] at h5
      refine ⟨fun hm => ?_, h5.2⟩
      have : (o.looksAt ops).contains d = true := by simpa using hm
      rw [this] at h5; exact absurd h5.1 (by simp)
  · rw [if_neg (by omega)] at hb
    have hjl : j < ops.size := (Array.getElem?_eq_some_iff.1 hj).1
    have h2 := List.all_eq_true.1 hb j (List.mem_range.2 hjl)
    rw [hj] at h2
    simp only [Option.bind_some, hd, Bool.or_eq_true, beq_iff_eq, hne, false_or, Bool.and_eq_true, bne_iff_ne, ne_eq, Bool.not_eq_true'] at h2
    refine ⟨h2.1, fun hm => ?_⟩
    rcases h2.2 with h3 | h3
    · have : (o.looksAt ops).contains d = true := by simpa using hm
      rw [this] at h3; cases h3
    · exact ⟨fun hlt => by rw [if_pos hlt] at h3; exact h3, fun hlt => by rw [if_neg (by omega)] at h3; exact h3⟩
theorem late_at {j : Nat} (h : late ops j = true) : ∃ o d, ops[j]? = some o ∧ o.guard = none ∧ slotOp o.op = true ∧ o.dst = some d ∧ ∀ i o' d', j ≤ i → ops[i]? = some o' → o'.dst = some d' → d' ∉ o.looksAt ops := by
  unfold late at h
  split at h
  · rename_i o ho
    simp only [Bool.and_eq_true, Option.isNone_iff_eq_none] at h
    obtain ⟨⟨⟨h1, h2⟩, h3⟩, h4⟩ := h
    obtain ⟨d, hd⟩ := Option.isSome_iff_exists.1 h3
    refine ⟨o, d, ho, h1, h2, hd, fun i o' d' hi ho' hd' hm => ?_⟩
    have := List.all_eq_true.1 h4 i (List.mem_range.2 (Array.getElem?_eq_some_iff.1 ho').1)
    rw [ho'] at this
    simp only [Option.bind_some, hd', Bool.or_eq_true, decide_eq_true_eq, Bool.not_eq_true'] at this
    rcases this with h5 | h5
    · omega
    · have : (o.looksAt ops).contains d' = true := by simpa using hm
      rw [this] at h5; cases h5
  · cases h
theorem all_listedL {k : Nat} (h : drawOkL ops k = true) {listed : Array Bool} (hr : Region.ready .any ops listed = []) (hsz : listed.size = ops.size) : ∀ i, i < ops.size → listed.getD i false = true := by
  intro i
  induction i using Nat.strongRecOn with
  | _ i ih =>
    intro hi
    cases hl : listed.getD i false with
    | true => rfl
    | false =>
      have ho : ops[i]? = some ops[i] := Array.getElem?_eq_getElem hi
      have : i ∈ Region.ready .any ops listed := mem_ready.2 ⟨by
        have hlt : i < listed.size := by omega
        simp [hlt] at hl ⊢; exact hl, _, ho, fun e he hb => ih e.on ((drawOkL_at h ho).1 e he hb) (by have := (drawOkL_at h ho).1 e he hb; omega)⟩
      rw [hr] at this; cases this
theorem open_iff {k : Nat} {listed : Array Bool} {t : Nat} : open_ ops k listed t = true ↔ ∃ j o, j < k ∧ listed.getD j false = false ∧ ops[j]? = some o ∧ o.dst = some t := by
  unfold open_
  rw [List.any_eq_true]
  constructor
  · rintro ⟨j, hj, hb⟩
    rw [Bool.and_eq_true] at hb
    have hd := eq_of_beq hb.2
    cases ho : ops[j]? with
    | none => rw [ho] at hd; cases hd
    | some o =>
      rw [ho] at hd
      exact ⟨j, o, List.mem_range.1 hj, by simpa using hb.1, ho, hd⟩
  · rintro ⟨j, o, hj, hl, ho, hd⟩
    exact ⟨j, List.mem_range.2 hj, by rw [Bool.and_eq_true]; exact ⟨by simp [hl], by simp [ho, hd]⟩⟩
theorem sim_of_E {st : St} {E : Nat → Option AV} {a : Act} {w : World} (hE : ∀ t x, st.E t = some x → E t = some x) (hs : SimE F E st.hp st.nx a w) : Sim F st a w := by
  obtain ⟨hd, htn, S, m, hm, h⟩ := hs
  exact ⟨hd, htn, S, m, hm, fun t x hx => h t x (hE t x hx)⟩
/-- What is late has its value in the state already, and nobody that comes changes what it looks at. -/
def Late (P : Program) (ops : Array Oper) (k : Nat) (listed : Array Bool) (st : St) : Prop := ∀ j o d, j < k → listed.getD j false = false → ops[j]? = some o → o.dst = some d → late ops j = true ∧ ∃ x, aPure P (aEv st.E) st.hp o.op = some x ∧ st.E d = some x
theorem tail_late (hn : F.n = n) {k : Nat} (hk : drawOkL ops k = true) (hkd : ∀ j o, j < k → ops[j]? = some o → dstOk n o.dst) {K : St → Prop} {Q : Exit → Act → World → Prop} (hQ : ∀ st' a' w', K st' → Sim F st' a' w' → Q .normal a' w') :
    ∀ (fuel : Nat) (l : List Oper) (i : Nat) (listed : Array Bool) {st : St} {a : Act} {w : World}, k ≤ i → l = ops.toList.drop i → i ≤ ops.size → cnt listed = fuel → listed.size = ops.size → (∀ j, k ≤ j → listed.getD j false = decide (j < i)) →
      (∀ j, j < k → j < ops.size → late ops j = false → listed.getD j false = true) → (∀ i o, ops[i]? = some o → listed.getD i false = true → ∀ e ∈ o.after, Region.binds .any e = true → listed.getD e.on false = true) → Late P ops k listed st → aOps P n ops l K st → Sim F (less ops k listed st) a w → wpAny P .any ops Q fuel listed a w := by
  intro fuel
  induction fuel with
  | zero =>
    intro l i listed st a w hki hl hil hc hsz hli hnl hcl hJ h hs
    have hall : ∀ j, j < ops.size → listed.getD j false = true := fun j hj => cnt_zero hc j (by omega)
    have hi : i = ops.size := by
      rcases Nat.lt_or_ge i ops.size with h1 | h1
      · have := hall i h1; rw [hli i hki] at this; simp at this
      · omega
    subst hi
    have hr : Region.ready .any ops listed = [] := by
      cases hr : Region.ready .any ops listed with
      | nil => rfl
      | cons j js =>
        have hm : j ∈ Region.ready .any ops listed := by rw [hr]; simp
        obtain ⟨h1, o, ho, _⟩ := mem_ready.1 hm
        have := getD_both' (hall j (Array.getElem?_eq_some_iff.1 ho).1)
        rw [this] at h1; cases h1
    have hl0 : l = [] := by rw [hl]; exact List.drop_eq_nil_iff.2 (by simp)
    subst hl0
    refine wpAny_done hr (hQ _ _ _ h ?_) 0
    refine sim_of_E (fun t x hx => ?_) hs
    rw [less_E, if_neg]
    · exact hx
    · intro ho
      obtain ⟨j, o, _, h2, h3, _⟩ := open_iff.1 ho
      rw [hall j (Array.getElem?_eq_some_iff.1 h3).1] at h2; cases h2
  | succ fuel ih =>
    intro l i listed st a w hki hl hil hc hsz hli hnl hcl hJ h hs
    refine ⟨fun h0 => ?_, fun r hr => ?_⟩
    · have hall := all_listedL hk h0 hsz
      have : cnt listed = 0 := by
        unfold cnt
        refine List.countP_eq_zero.2 fun b hb => ?_
        obtain ⟨j, hj⟩ := List.getElem?_of_mem hb
        have hlt : j < listed.size := by simpa using (List.getElem?_eq_some_iff.1 hj).1
        have h1 := hall j (by omega)
        have h2 : listed[j] = b := by
          have := (List.getElem?_eq_some_iff.1 hj).2
          simpa using this
        simp [hlt, h2] at h1; simp [h1]
      omega
    · obtain ⟨hun, o, ho, hafter⟩ := mem_ready.1 hr
      have hrsz : r < ops.size := (Array.getElem?_eq_some_iff.1 ho).1
      have hunf : listed.getD r false = false := by
        have hlt : r < listed.size := by omega
        simp [hlt] at hun ⊢; exact hun
      have hcs := cnt_set (l := listed) (i := r) (by omega) hun
      have keep : ∀ q, listed.getD q false = true → (listed.setIfInBounds r true).getD q false = true := fun q hq => getD_set_true hq
      have hrset : (listed.setIfInBounds r true).getD r false = true := by
        have hlt : r < listed.size := by omega
        simp [hlt]
      have hcl' : ∀ i o, ops[i]? = some o → (listed.setIfInBounds r true).getD i false = true → ∀ e ∈ o.after, Region.binds .any e = true → (listed.setIfInBounds r true).getD e.on false = true := fun j o' hj hl' e he hb => by
        by_cases hji : j = r
        · subst hji
          rw [ho] at hj; injection hj with hj; subst hj
          exact keep _ (hafter e he hb)
        · refine keep _ (hcl j o' hj ?_ e he hb)
          rw [getD_set_ne false (Ne.symm hji)] at hl'; exact hl'
      by_cases hrk : r < k
      · -- it comes late
        obtain ⟨d, hd⟩ : ∃ d, o.dst = some d := by
          cases hlt : late ops r with
          | true => obtain ⟨o', d, ho', _, _, hd, _⟩ := late_at hlt; rw [ho] at ho'; injection ho' with ho'; subst ho'; exact ⟨d, hd⟩
          | false => rw [hnl r hrk hrsz hlt] at hunf; cases hunf
        obtain ⟨hlate, x, hx, hxE⟩ := hJ r o d hrk hunf ho hd
        obtain ⟨o', d', ho', hg, hslot, hd', hlook⟩ := late_at hlate
        rw [ho] at ho'; injection ho' with ho'; subst ho'
        -- what it looks at is there
        have hnot : ∀ t ∈ o.looksAt ops, open_ ops k listed t = false := fun t ht => by
          cases hop : open_ ops k listed t with
          | false => rfl
          | true =>
            obtain ⟨j, oj, hj, hjl, hjo, hjd⟩ := open_iff.1 hop
            rcases Nat.lt_or_ge j r with h1 | h1
            · have := ((drawOkL_at hk ho).2.2 hrk j oj t hjo (by omega) hjd).2 ht
              rw [edgeT_ready hcl hr (this.1 h1)] at hjl; cases hjl
            · exact absurd ht (hlook j oj t h1 hjo hjd)
        have hev : ∀ o' ∈ o.op.operands.toList, aEv (less ops k listed st).E o' = aEv st.E o' :=
          ev_congr (fun t ht => by rw [less_E, if_neg (by rw [hnot t (List.mem_append_left _ ht)]; simp)])
        have hx' : aPure P (aEv (less ops k listed st).E) (less ops k listed st).hp o.op = some x := by
          rw [pure_congr o.op hev]; exact hx
        have hop : aOp P n o (fun s => s = (less ops k listed st).put o.dst x) (fun s => s = (less ops k listed st).put o.dst x) (less ops k listed st) := by
          unfold aOp; rw [hx']; exact ⟨hkd r o hrk ho, rfl⟩
        unfold wpOp
        rw [ho]
        simp only
        rw [if_pos (by simp [Region.wanted, hg])]
        refine .inl (aOp_sound hn hop hs (fun s a' w' he hs' => ?_))
        subst he
        refine ih l i (listed.setIfInBounds r true) hki hl hil (by omega) (by simpa using hsz) (fun j hj => by rw [getD_set_ne false (by omega)]; exact hli j hj) (fun j hj hjs hjl => keep j (hnl j hj hjs hjl)) hcl' (fun j oj dj hj hjl hjo hjd => ?_) h ?_
        · have hjr : j ≠ r := fun e => by rw [e, hrset] at hjl; cases hjl
          rw [getD_set_ne false (Ne.symm hjr)] at hjl
          exact hJ j oj dj hj hjl hjo hjd
        · have e1 : ((less ops k listed st).put o.dst x).hp = st.hp := by rw [hd]; rfl
          have e2 : ((less ops k listed st).put o.dst x).nx = st.nx := by rw [hd]; rfl
          unfold Sim at hs' ⊢
          rw [e1, e2, put_E] at hs'
          refine sim_of_E (st := less ops k (listed.setIfInBounds r true) st) (fun t y hy => ?_) hs'
          rw [less_E] at hy
          split at hy
          · cases hy
          · rename_i hno
            unfold updE
            by_cases htd : o.dst = some t
            · rw [if_pos htd]
              rw [hd] at htd; injection htd with htd; subst htd
              rw [hxE] at hy; exact hy
            · rw [if_neg htd, less_E, if_neg]
              · exact hy
              · intro hop
                obtain ⟨j, oj, hj, hjl, hjo, hjd⟩ := open_iff.1 hop
                refine hno (open_iff.2 ⟨j, oj, hj, ?_, hjo, hjd⟩)
                have hjr : j ≠ r := fun e => by subst e; rw [ho] at hjo; injection hjo with hjo; subst hjo; exact htd hjd
                rw [getD_set_ne false (Ne.symm hjr)]; exact hjl
      · -- the tail's next one
        have hri : r = i := by
          have h1 : ¬ r < i := fun hh => by rw [hli r (by omega)] at hunf; simp [hh] at hunf
          rcases Nat.lt_or_ge i r with h2 | h2
          · rcases (drawOkL_at hk ho).2.1 (by omega) i h2 with h3 | ⟨h3, _⟩
            · have := edgeT_ready hcl hr h3; rw [hli i hki] at this; simp at this
            · omega
          · omega
        subst hri
        have hl' : l = o :: ops.toList.drop (r + 1) := by
          rw [hl]
          have hlt : r < ops.toList.length := by simpa using hrsz
          rw [List.drop_eq_getElem_cons hlt]
          have := (Array.getElem?_eq_some_iff.1 ho).2
          simp [this]
        subst hl'
        have hfree : ∀ j oj d, j < k → listed.getD j false = false → ops[j]? = some oj → oj.dst = some d → d ∉ o.looksAt ops ∧ o.dst ≠ some d := fun j oj d hj hjl hjo hjd => by
          rcases (drawOkL_at hk ho).2.1 hki j (by omega) with h1 | ⟨_, _, h1⟩
          · rw [edgeT_ready hcl hr h1] at hjl; cases hjl
          · exact h1 oj d hjo hjd
        have hnot : ∀ t ∈ o.looksAt ops, open_ ops k listed t = false := fun t ht => by
          cases hop : open_ ops k listed t with
          | false => rfl
          | true =>
            obtain ⟨j, oj, hj, hjl, hjo, hjd⟩ := open_iff.1 hop
            exact absurd ht (hfree j oj t hj hjl hjo hjd).1
        have hev : ∀ o' ∈ o.op.operands.toList, aEv (less ops k listed st).E o' = aEv st.E o' :=
          ev_congr (fun t ht => by rw [less_E, if_neg (by rw [hnot t (List.mem_append_left _ ht)]; simp)])
        -- behind it
        have next : ∀ (x : AV) (hp : List (Nat × Blk)) (nx : Nat), aOps P n ops (ops.toList.drop (r + 1)) K ((St.mk st.env hp nx).put o.dst x) → ∀ a' w', Sim F ((St.mk (less ops k listed st).env hp nx).put o.dst x) a' w' → wpAny P .any ops Q fuel (listed.setIfInBounds r true) a' w' := fun x hp nx hh a' w' hs' => by
          have e1 : ∀ s : St, (s.put o.dst x).hp = s.hp := fun s => by cases o.dst <;> rfl
          have e2 : ∀ s : St, (s.put o.dst x).nx = s.nx := fun s => by cases o.dst <;> rfl
          have hopen : ∀ t, open_ ops k (listed.setIfInBounds r true) t = true ↔ open_ ops k listed t = true := fun t => by
            rw [open_iff, open_iff]
            constructor
            · rintro ⟨j, oj, hj, hjl, hjo, hjd⟩
              exact ⟨j, oj, hj, by rw [getD_set_ne false (by omega)] at hjl; exact hjl, hjo, hjd⟩
            · rintro ⟨j, oj, hj, hjl, hjo, hjd⟩
              exact ⟨j, oj, hj, by rw [getD_set_ne false (by omega)]; exact hjl, hjo, hjd⟩
          refine ih _ (r + 1) (listed.setIfInBounds r true) (by omega) rfl (by omega) (by omega) (by simpa using hsz) (fun j hj => ?_) (fun j hj hjs hjl => keep j (hnl j hj hjs hjl)) hcl' (fun j oj d hj hjl hjo hjd => ?_) hh ?_
          · by_cases hjr : j = r
            · subst hjr; rw [hrset]; symm; exact decide_eq_true (by omega)
            · rw [getD_set_ne false (Ne.symm hjr), hli j hj]; simp only [decide_eq_decide]; omega
          · rw [getD_set_ne false (by omega)] at hjl
            obtain ⟨h1, y, h2, h3⟩ := hJ j oj d hj hjl hjo hjd
            obtain ⟨oj', d', hjo', _, hslot, _, hlook⟩ := late_at h1
            rw [hjo] at hjo'; injection hjo' with hjo'; subst hjo'
            have hne := (hfree j oj d hj hjl hjo hjd).2
            refine ⟨h1, y, ?_, ?_⟩
            · rw [e1]
              have hev' : ∀ o' ∈ oj.op.operands.toList, aEv ((St.mk st.env hp nx).put o.dst x).E o' = aEv st.E o' := ev_congr (fun t ht => by
                rw [put_E]; unfold updE
                rw [if_neg (fun e => hlook r o t (by omega) ho e (List.mem_append_left _ ht))]; rfl)
              rw [pure_congr oj.op hev', aVal_slot (hp' := st.hp) hslot]; exact h2
            · rw [put_E]; unfold updE; rw [if_neg hne]; exact h3
          · unfold Sim at hs' ⊢
            rw [e1, e2, put_E] at hs'
            have e3 : (less ops k (listed.setIfInBounds r true) ((St.mk st.env hp nx).put o.dst x)).hp = hp := e1 _
            have e4 : (less ops k (listed.setIfInBounds r true) ((St.mk st.env hp nx).put o.dst x)).nx = nx := e2 _
            have := sim_of_E (F := F) (st := less ops k (listed.setIfInBounds r true) ((St.mk st.env hp nx).put o.dst x)) (E := updE (St.mk (less ops k listed st).env hp nx).E o.dst x) (a := a') (w := w') (fun t y hy => by
              rw [less_E, put_E] at hy
              unfold updE at hy ⊢
              split at hy
              · cases hy
              · rename_i hno
                split at hy
                · rename_i htd; rw [if_pos htd]; exact hy
                · rename_i htd; rw [if_neg htd]
                  have := less_E ops k listed st t
                  rw [if_neg (fun h => hno ((hopen t).2 h))] at this
                  exact this.trans hy) (by rw [e3, e4]; exact hs')
            exact this
        unfold wpOp
        rw [ho]
        simp only
        unfold aOps at h
        split at h
        · rename_i hg
          rw [if_pos (by simp [Region.wanted, hg])]
          have h2 := aOp_congr (K' := fun s => ∃ x hp nx, aOps P n ops (ops.toList.drop (r + 1)) K ((St.mk st.env hp nx).put o.dst x) ∧ s = (St.mk (less ops k listed st).env hp nx).put o.dst x) hev rfl rfl (fun x hp nx hh => ⟨x, hp, nx, hh, rfl⟩) h
          exact .inl (aOp_sound hn h2 hs (fun s a' w' ⟨x, hp, nx, hh, he⟩ hs' => by subst he; exact next x hp nx hh a' w' hs'))
        · rename_i g want hg
          split at h
          · rename_i b hb
            have hgd : (((ops[g]?).bind (·.dst)).bind (less ops k listed st).E) = (((ops[g]?).bind (·.dst)).bind st.E) := by
              cases hgt : (ops[g]?).bind (·.dst) with
              | none => rfl
              | some t =>
                show (less ops k listed st).E t = st.E t
                rw [less_E, if_neg]
                rw [hnot t (List.mem_append_right _ (by rw [hg]; simp only [hgt]; simp))]; simp
            have hs0 := hs
            obtain ⟨hdf, htn, S, m, hm, hE⟩ := hs
            have hy := yielded_E htn hE (by rw [hgd]; exact hb)
            by_cases hbw : b = some want
            · rw [if_pos (by simp [Region.wanted, hg, hy, hbw])]
              rw [if_pos hbw] at h
              have h2 := aOp_congr (K' := fun s => ∃ x hp nx, aOps P n ops (ops.toList.drop (r + 1)) K ((St.mk st.env hp nx).put o.dst x) ∧ s = (St.mk (less ops k listed st).env hp nx).put o.dst x) hev rfl rfl (fun x hp nx hh => ⟨x, hp, nx, hh, rfl⟩) h
              exact .inl (aOp_sound hn h2 hs0 (fun s a' w' ⟨x, hp, nx, hh, he⟩ hs' => by subst he; exact next x hp nx hh a' w' hs'))
            · rw [if_neg (by simp [Region.wanted, hg, hy, hbw])]
              rw [if_neg hbw] at h
              obtain ⟨hdo, hk'⟩ := h
              exact next _ st.hp st.nx hk' _ _ (Sim.put (st := less ops k listed st) (hp := st.hp) (nx := st.nx) hdf htn hE (fun x u hx => hx) hm (.s _) (by rw [hn]; exact hdo))
          · exact h.elim
end
end Go.Proofs.Ytgggekjhfdkgkaa.Ab
