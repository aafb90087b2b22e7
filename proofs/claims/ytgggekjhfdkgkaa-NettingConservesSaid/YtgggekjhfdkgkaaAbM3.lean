/- Abstract runs: a region that draws its order does what its operations say; some operations may come late. -/
import Derived.Test.YtgggekjhfdkgkaaAbM2
namespace Go.Proofs.Ytgggekjhfdkgkaa.Ab
open Go Go.RowKit Go.Shelf
section
variable {P : Program} {n : Nat} {F : Fr} {ops : Array Oper}
theorem evals_slot {E : Nat → Option AV} {hp : List (Nat × Blk)} {nx : Nat} {o : Oper} {x : AV} (hs : slotOp o.op = true) (h : EvalsTo P (aEv E) hp nx o x) : aPure P (aEv E) hp o.op = some x := by
  unfold EvalsTo at h
  split at h
  · rename_i y hy; rw [hy, h]
  · split at h
    · rename_i e; rw [e] at hs; simp [slotOp] at hs
    · rename_i e; rw [e] at hs; simp [slotOp] at hs
    · exact h.elim
theorem aDraw_soundL (hn : F.n = n) {id : Nat} {K : St → Prop} {st : St} {a : Act} {w : World} {Q : Exit → Act → World → Prop} (h : P.follows .mixedOrders = true ∧ ∃ k, drawOkL ops k = true ∧ aHead P n ops (ops.toList.take k) (fun st => aOps P n ops (ops.toList.drop k) K st) st) (hs : Sim F st a w) (hQ : ∀ st' a' w', K st' → Sim F st' a' w' → Q .normal a' w') :
    (Code.region id ops true).wp P Q a w := by
  obtain ⟨hmix, k0, hk0, hh0⟩ := h
  -- no more than there are
  obtain ⟨k, hk, hh, hks⟩ : ∃ k, drawOkL ops k = true ∧ aHead P n ops (ops.toList.take k) (fun st => aOps P n ops (ops.toList.drop k) K st) st ∧ k ≤ ops.size := by
    by_cases hle : k0 ≤ ops.size
    · exact ⟨k0, hk0, hh0, hle⟩
    · refine ⟨ops.size, ?_, ?_, Nat.le_refl _⟩
      · unfold drawOkL at hk0 ⊢
        refine List.all_eq_true.2 fun i hi => ?_
        have h1 := List.all_eq_true.1 hk0 i hi
        have hi' := List.mem_range.1 hi
        cases ho : ops[i]? with
        | none => rw [ho] at h1; exact h1
        | some o =>
          rw [ho] at h1
          simp only at h1 ⊢
          rw [if_neg (by omega)] at h1 ⊢
          exact h1
      · have e1 : ops.toList.take k0 = ops.toList.take ops.size := by rw [List.take_of_length_le (by simp; omega), List.take_of_length_le (by simp)]
        have e2 : ops.toList.drop k0 = ops.toList.drop ops.size := by rw [List.drop_eq_nil_of_le (by simp; omega), List.drop_eq_nil_of_le (by simp)]
        rw [← e1, ← e2]; exact hh0
  refine wp_region_any hmix ?_
  obtain ⟨xs, st', hxl, hv, htail, he1, he2, hfull⟩ := head_vals _ hh
  have hget : ∀ i, i < k → (ops.toList.take k)[i]? = ops[i]? := fun i hi => by rw [List.getElem?_take, if_pos hi]; simp
  have hgo : ∀ i o, (ops.toList.take k)[i]? = some o → i < k ∧ ops[i]? = some o := fun i o ho => by
    have hi : i < k := by
      rw [List.getElem?_take] at ho
      split at ho
      · assumption
      · cases ho
    exact ⟨hi, by rw [← hget i hi]; exact ho⟩
  have hkd : ∀ j o, j < k → ops[j]? = some o → dstOk n o.dst := fun j o hj ho => by
    obtain ⟨x, _, hst⟩ := head_at _ _ _ 0 hv j o (by rw [hget j hj]; exact ho)
    exact hst.1
  have main : ∀ (fuel : Nat) (listed : Array Bool) (a : Act) (w : World), cnt listed = fuel → listed.size = ops.size → (∀ i o, ops[i]? = some o → listed.getD i false = true → ∀ e ∈ o.after, Region.binds .any e = true → listed.getD e.on false = true) →
      (∀ i, k ≤ i → listed.getD i false = false) → SimE F (EL (fun j => listed.getD j false) st.E 0 (ops.toList.take k) xs) st.hp st.nx a w → wpAny P .any ops Q fuel listed a w := by
    have toTail : ∀ (fuel : Nat) (listed : Array Bool) (a : Act) (w : World), cnt listed = fuel → listed.size = ops.size → (∀ i o, ops[i]? = some o → listed.getD i false = true → ∀ e ∈ o.after, Region.binds .any e = true → listed.getD e.on false = true) → (∀ i, k ≤ i → listed.getD i false = false) → (∀ j, j < k → j < ops.size → late ops j = false → listed.getD j false = true) →
        SimE F (EL (fun j => listed.getD j false) st.E 0 (ops.toList.take k) xs) st.hp st.nx a w → wpAny P .any ops Q fuel listed a w := by
      intro fuel listed a w hc hsz hcl htl hnl hs
      have hful := hfull (fun _ => true) (fun _ => rfl) 0
      refine tail_late hn hk hkd hQ fuel (ops.toList.drop k) k listed (st := st') (Nat.le_refl _) rfl hks hc hsz (fun j hj => by rw [htl j hj]; symm; exact decide_eq_false (by omega)) hnl hcl (fun j o d hj hjl ho hd => ?_) htail ?_
      · have hlt : late ops j = true := by
          cases hl : late ops j with
          | true => rfl
          | false => rw [hnl j hj (Array.getElem?_eq_some_iff.1 ho).1 hl] at hjl; cases hjl
        obtain ⟨o', d', ho', hg, hslot, hd', hlook⟩ := late_at hlt
        rw [ho] at ho'; injection ho' with ho'; subst ho'
        obtain ⟨x, hx, hst⟩ := head_at _ _ _ 0 hv j o (by rw [hget j hj]; exact ho)
        have hst2 := hst.2
        rw [hg] at hst2
        have hval := evals_slot hslot hst2
        refine ⟨hlt, x, ?_, ?_⟩
        · have hev : ∀ o' ∈ o.op.operands.toList, aEv st'.E o' = aEv (EL (fun i => decide (i < 0 + j)) st.E 0 (ops.toList.take k) xs) o' := ev_congr (fun t ht => by
            rw [hful]
            refine EL_congr _ _ t _ _ _ _ 0 rfl (fun i oi hi hdi => ?_)
            obtain ⟨_, hi'⟩ := hgo i oi hi
            rcases Nat.lt_or_ge i j with h1 | h1
            · symm; simp only [Nat.zero_add]; exact decide_eq_true h1
            · exact absurd (List.mem_append_left _ ht) (hlook i oi t h1 hi' hdi))
          rw [pure_congr o.op hev, aVal_slot (hp' := st.hp) hslot]; exact hval
        · rw [hful]
          exact EL_hit _ d _ _ _ 0 j o x (by rw [hget j hj]; exact ho) hx hd rfl (fun i oi hi hij hdi => by
            obtain ⟨_, hi'⟩ := hgo i oi hi
            exact ((drawOkL_at hk ho).2.2 hj i oi d hi' hij hdi).1 hd)
      · rw [← he1, ← he2] at hs
        refine sim_of_E (st := less ops k listed st') (fun t y hy => ?_) hs
        rw [less_E] at hy
        split at hy
        · cases hy
        · rename_i hno
          rw [← hy, hful]
          refine EL_congr _ _ t _ _ _ _ 0 rfl (fun i oi hi hdi => ?_)
          obtain ⟨hik, hi'⟩ := hgo i oi hi
          simp only [Nat.zero_add]
          cases hl : listed.getD i false with
          | true => rfl
          | false => exact absurd (open_iff.2 ⟨i, oi, hik, hl, hi', hdi⟩) hno
    intro fuel
    induction fuel with
    | zero =>
      intro listed a w hc hsz hcl htl hs
      exact toTail 0 listed a w hc hsz hcl htl (fun j _ hj _ => cnt_zero hc j (by omega)) hs
    | succ fuel ih =>
      intro listed a w hc hsz hcl htl hs
      by_cases hhead : ∀ j, j < k → j < ops.size → late ops j = false → listed.getD j false = true
      · exact toTail _ listed a w hc hsz hcl htl hhead hs
      · refine ⟨fun h0 => ?_, fun i hi => ?_⟩
        · exact absurd (fun j _ hj _ => all_listedL hk h0 hsz j hj) hhead
        · obtain ⟨hun, o, ho, hafter⟩ := mem_ready.1 hi
          have hisz : i < ops.size := (Array.getElem?_eq_some_iff.1 ho).1
          have hunf : listed.getD i false = false := by
            have hlt : i < listed.size := by omega
            simp [hlt] at hun ⊢; exact hun
          have hik : i < k := by
            rcases Nat.lt_or_ge i k with h1 | h1
            · exact h1
            · refine absurd (fun j hj hjs hjl => ?_) hhead
              rcases (drawOkL_at hk ho).2.1 h1 j (by omega) with h2 | ⟨_, h2, _⟩
              · exact edgeT_ready hcl hi h2
              · rw [h2] at hjl; cases hjl
          obtain ⟨x, hx, hst⟩ := head_at _ _ _ 0 hv i o (by rw [hget i hik]; exact ho)
          have hst' : StepV P n ops st.hp st.nx (EL (fun j => listed.getD j false) st.E 0 (ops.toList.take k) xs) o x := by
            refine step_congr (fun t ht => ?_) hst
            refine EL_congr _ _ t _ _ _ _ 0 rfl (fun j o' hj hd => ?_)
            obtain ⟨hjk, hj'⟩ := hgo j o' hj
            simp only [Nat.zero_add]
            by_cases hji : j = i
            · subst hji; rw [hunf]; simp
            · obtain ⟨_, h2⟩ := (drawOkL_at hk ho).2.2 hik j o' t hj' hji hd
              obtain ⟨h3, h4⟩ := h2 ht
              rcases Nat.lt_or_gt_of_ne hji with h5 | h5
              · rw [edgeT_ready hcl hi (h3 h5)]; symm; exact decide_eq_true h5
              · have hnl : listed.getD j false = false := by
                  cases hl : listed.getD j false with
                  | false => rfl
                  | true =>
                    have := edgeT_before (h4 h5) (fun q => listed.getD q false = true) (fun q o'' ho'' hq e he' hb => hcl q o'' ho'' hq e he' hb) (fun o'' ho'' e he' hb => hcl j o'' ho'' hl e he' hb)
                    rw [hunf] at this; cases this
                rw [hnl]; symm; exact decide_eq_false (by omega)
          refine stepV_sound hn ho hst' hs (fun a' w' hs' => ?_)
          have hcs := cnt_set (l := listed) (i := i) (by omega) hun
          refine ih (listed.setIfInBounds i true) a' w' (by omega) (by simpa using hsz) (fun j o' hj hl e he hb => ?_) (fun j hj => ?_) ?_
          · have keep : ∀ q, listed.getD q false = true → (listed.setIfInBounds i true).getD q false = true := fun q hq => getD_set_true hq
            by_cases hji : j = i
            · subst hji
              rw [ho] at hj; injection hj with hj; subst hj
              exact keep _ (hafter e he hb)
            · refine keep _ (hcl j o' hj ?_ e he hb)
              rw [getD_set_ne false (Ne.symm hji)] at hl; exact hl
          · rw [getD_set_ne false (by omega)]; exact htl j hj
          · have : EL (fun j => (listed.setIfInBounds i true).getD j false) st.E 0 (ops.toList.take k) xs = updE (EL (fun j => listed.getD j false) st.E 0 (ops.toList.take k) xs) o.dst x := by
              funext t
              unfold updE
              by_cases hd : o.dst = some t
              · rw [if_pos hd]
                refine EL_hit _ t _ _ _ 0 i o x (by rw [hget i hik]; exact ho) hx hd ?_ (fun j o' hj hji hd' => ?_)
                · have hlt : i < listed.size := by omega
                  simp [hlt]
                · obtain ⟨_, hj'⟩ := hgo j o' hj
                  exact ((drawOkL_at hk ho).2.2 hik j o' t hj' hji hd').1 hd
              · rw [if_neg hd]
                refine EL_congr _ _ t _ _ _ _ 0 rfl (fun j o' hj hd' => ?_)
                obtain ⟨hjk, hj'⟩ := hgo j o' hj
                simp only [Nat.zero_add]
                by_cases hji : j = i
                · subst hji; rw [ho] at hj'; injection hj' with hj'; subst hj'; exact absurd hd' hd
                · exact getD_set_ne false (Ne.symm hji)
            rw [this]; exact hs'
  have hs0 : SimE F st.E st.hp st.nx a w.drew := by
    obtain ⟨hd, htn, S, m, hm, hE⟩ := hs
    exact ⟨hd, htn, S, m, hm.below (below_drew w), fun t x h => ⟨(hE t x h).1, (hE t x h).2.belowW (below_drew w)⟩⟩
  have hrep : ∀ j, (Array.replicate ops.size false).getD j false = false := fun j => by
    rcases Nat.lt_or_ge j ops.size with h1 | h1
    · simp [h1]
    · simp [Array.getElem?_eq_none (by simpa using h1 : (Array.replicate ops.size false).size ≤ j)]
  refine main ops.size (Array.replicate ops.size false) a w.drew ?_ (by simp) (fun i o ho hl => by rw [hrep] at hl; cases hl) (fun i _ => hrep i) ?_
  · unfold cnt
    rw [Array.toList_replicate, List.countP_replicate]; simp
  · have : EL (fun j => (Array.replicate ops.size false).getD j false) st.E 0 (ops.toList.take k) xs = st.E := funext fun t => EL_none _ t _ _ _ 0 (fun i o _ _ => hrep _)
    rw [this]; exact hs0
end
end Go.Proofs.Ytgggekjhfdkgkaa.Ab
