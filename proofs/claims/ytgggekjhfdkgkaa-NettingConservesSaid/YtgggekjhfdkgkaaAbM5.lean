/- Abstract runs: a region that draws its order does what its operations say. -/
import Derived.Test.YtgggekjhfdkgkaaAbM4
namespace Go.Proofs.Ytgggekjhfdkgkaa.Ab
open Go Go.RowKit Go.Shelf
section
variable {P : Program} {n : Nat} {F : Fr} {ops : Array Oper}
/-- All variables were made: they become own blocks in the order of the text, and the tail goes on. -/
theorem take_all (hn : F.n = n) {k e : Nat} (hk : drawOkE ops k e = true) (hkd : ∀ j o, j < k → ops[j]? = some o → dstOk n o.dst) {K : St → Prop} {Q : Exit → Act → World → Prop} (hQ : ∀ st' a' w', K st' → Sim F st' a' w' → Q .normal a' w') (fuel : Nat) (listed : Array Bool) (hc : cnt listed = fuel) (hsz : listed.size = ops.size)
    (htl : ∀ j, k + e ≤ j → listed.getD j false = false) (hal : ∀ j, k ≤ j → j < k + e → listed.getD j false = true) (hnl : ∀ j, j < k → j < ops.size → late ops j = false → listed.getD j false = true) (hcl : ∀ i o, ops[i]? = some o → listed.getD i false = true → ∀ e ∈ o.after, Region.binds .any e = true → listed.getD e.on false = true) {a : Act} {w : World} :
    ∀ (q i : Nat) {st : St} {E : Nat → Option AV} {R : Nat → Option (TypeId × Array Value)}, i + q = k + e → k ≤ i → aOps P n ops (ops.toList.drop i) K st → SimR F E st.hp st.nx R a w → (∀ t y, open_ ops (k + e) listed t = false → st.E t = some y → R t = none → E t = some y) →
      (∀ d r, R d = some r → ∃ j o, i ≤ j ∧ j < k + e ∧ ops[j]? = some o ∧ o.dst = some d ∧ o.op = .alloc r.1 ∧ zeroT P r.1 = some (r.2.toList.map .s)) → (∀ j o d, i ≤ j → j < k + e → ops[j]? = some o → o.dst = some d → ∃ r, R d = some r) → Late P ops (k + e) listed st → (∀ j o, k ≤ j → j < i → ops[j]? = some o → dstOk n o.dst) → wpAny P .any ops Q fuel listed a w
  | 0, i, st, E, R, hi, hki, h, hs, hE, hR1, hR2, hJ, hdd => by
    have hie : i = k + e := by omega
    subst hie
    have hks : k + e ≤ ops.size := by
      unfold drawOkE at hk
      simp only [Bool.and_eq_true, decide_eq_true_eq] at hk
      exact hk.1
    have hRn : ∀ d, R d = none := fun d => by
      cases hr : R d with
      | none => rfl
      | some r => obtain ⟨j, o, h1, h2, _⟩ := hR1 d r hr; omega
    have hkd' : ∀ j o, j < k + e → ops[j]? = some o → dstOk n o.dst := fun j o hj ho => by
      rcases Nat.lt_or_ge j k with h1 | h1
      · exact hkd j o h1 ho
      · exact hdd j o h1 hj ho
    refine tail_late hn (drawE_L hk) hkd' hQ fuel (ops.toList.drop (k + e)) (k + e) listed (st := st) (Nat.le_refl _) rfl hks hc hsz (fun j hj => by rw [htl j hj]; symm; exact decide_eq_false (by omega)) (fun j hj hjs hjl => ?_) hcl hJ h ?_
    · rcases Nat.lt_or_ge j k with h1 | h1
      · exact hnl j h1 hjs hjl
      · exact hal j h1 hj
    · obtain ⟨hdf, htn, S, m, γ, hm, hEE, _, _⟩ := hs
      refine ⟨hdf, htn, S, m, hm, fun t y hy => ?_⟩
      rw [less_E] at hy
      split at hy
      · cases hy
      · rename_i hno
        exact hEE t y (hE t y (by simpa using hno) hy (hRn t)) (hRn t)
  | q + 1, i, st, E, R, hi, hki, h, hs, hE, hR1, hR2, hJ, hdd => by
    obtain ⟨o, t, d, ho, hg, hop, hd, hdist, hlook⟩ := alloc_at hk hki (by omega : i < k + e)
    obtain ⟨r, hr⟩ := hR2 i o d (Nat.le_refl _) (by omega) ho hd
    obtain ⟨j, oj, hj1, hj2, hjo, hjd, hjop, hz⟩ := hR1 d r hr
    have hji : j = i := by
      rcases Nat.eq_or_lt_of_le hj1 with h1 | h1
      · exact h1.symm
      · exact absurd rfl (hdist j oj d hjo (by omega) hjd)
    subst hji
    rw [ho] at hjo; injection hjo with hjo; subst hjo
    rw [hop] at hjop; injection hjop with hjop; subst hjop
    obtain ⟨t', zs⟩ := r
    have hlt : j < ops.toList.length := by simpa using (Array.getElem?_eq_some_iff.1 ho).1
    rw [List.drop_eq_getElem_cons hlt] at h
    have hoe : ops.toList[j] = o := by have := (Array.getElem?_eq_some_iff.1 ho).2; simp [this]
    rw [hoe] at h
    unfold aOps at h
    rw [hg] at h
    simp only at h
    unfold aOp at h
    rw [hop] at h
    have hp0 : aPure P (aEv st.E) st.hp (.alloc t') = none := rfl
    have hh0 : aHeap P (aEv st.E) st.hp st.nx (.alloc t') = some (.ptr st.nx 0, (st.nx, ⟨t', 0, zs.toList.map .s⟩) :: st.hp, st.nx + 1) := by
      show (zeroT P t').map _ = _
      rw [hz]; rfl
    rw [hp0] at h
    simp only [hh0, hd] at h
    refine take_all hn hk hkd hQ fuel listed hc hsz htl hal hnl hcl q (j + 1) (by omega) (by omega) h.2 (hs.take hr) (fun t y ho' hy hRt => ?_) (fun d' r' hr' => ?_) (fun j' o' d' h1 h2 h3 h4 => ?_) (fun j' o' d' h1 h2 h3 h4 => ?_) (fun j' o' h1 h2 h3 => ?_)
    · rw [put_E] at hy
      unfold updE at hy ⊢
      split at hy
      · rename_i he; rw [if_pos he]; exact hy
      · rename_i he
        rw [if_neg he]
        have hne : t ≠ d := fun e => he (by rw [e])
        try dsimp only at hRt
        rw [if_neg hne] at hRt
        exact hE t y ho' hy hRt
    · try dsimp only at hr'
      by_cases hne : d' = d
      · rw [if_pos hne] at hr'; cases hr'
      · rw [if_neg hne] at hr'
        obtain ⟨j', o', h1, h2, h3, h4, h5, h6⟩ := hR1 d' r' hr'
        refine ⟨j', o', ?_, h2, h3, h4, h5, h6⟩
        rcases Nat.eq_or_lt_of_le h1 with h7 | h7
        · subst h7; rw [ho] at h3; injection h3 with h3; subst h3; rw [hd] at h4; injection h4 with h4; exact absurd h4.symm hne
        · omega
    · obtain ⟨r', hr'⟩ := hR2 j' o' d' (by omega) h2 h3 h4
      refine ⟨r', ?_⟩
      try dsimp only
      rw [if_neg (fun e => hdist j' o' d' h3 (by omega) h4 e.symm)]; exact hr'
    · obtain ⟨h5, x, h6, h7⟩ := hJ j' o' d' h1 h2 h3 h4
      obtain ⟨o2, d2, ho2, _, hslot, _, hlk⟩ := late_at h5
      rw [h3] at ho2; injection ho2 with ho2; subst ho2
      have hjk : j' < k := by
        rcases Nat.lt_or_ge j' k with h8 | h8
        · exact h8
        · rw [hal j' h8 h1] at h2; cases h2
      refine ⟨h5, x, ?_, ?_⟩
      · have hev : ∀ o'' ∈ o'.op.operands.toList, aEv ((St.mk st.env ((st.nx, ⟨t', 0, zs.toList.map .s⟩) :: st.hp) (st.nx + 1)).put (some d) (.ptr st.nx 0)).E o'' = aEv st.E o'' := ev_congr (fun t ht => by
          rw [put_E]; unfold updE
          rw [if_neg (fun e => by injection e with e; subst e; exact hlook j' o' hjk h3 (List.mem_append_left _ ht))]; rfl)
        rw [pure_congr o'.op hev, aVal_slot (hp' := st.hp) hslot]; exact h6
      · rw [put_E]; unfold updE
        rw [if_neg (fun e => by injection e with e; exact hdist j' o' d' h3 (by omega) h4 e)]; exact h7
    · rcases Nat.lt_or_ge j' j with h8 | h8
      · exact hdd j' o' h1 h8 h3
      · have : j' = j := by omega
        subst this; rw [ho] at h3; injection h3 with h3; subst h3
        rw [hd]; exact h.1
theorem aDraw_soundE (hn : F.n = n) {id : Nat} {K : St → Prop} {st : St} {a : Act} {w : World} {Q : Exit → Act → World → Prop} (h : P.follows .mixedOrders = true ∧ ∃ k e, drawOkE ops k e = true ∧ aHead P n ops (ops.toList.take k) (fun st => aOps P n ops (ops.toList.drop k) K st) st) (hs : Sim F st a w) (hQ : ∀ st' a' w', K st' → Sim F st' a' w' → Q .normal a' w') :
    (Code.region id ops true).wp P Q a w := by
  obtain ⟨hmix, k, e, hk, hh⟩ := h
  have hL := drawE_L hk
  have hks : k + e ≤ ops.size := by
    have h0 := hk
    unfold drawOkE at h0
    simp only [Bool.and_eq_true, decide_eq_true_eq] at h0
    exact h0.1
  refine wp_region_any hmix ?_
  obtain ⟨xs, st', hxl, hv, htail, he1, he2, hfull⟩ := head_vals _ hh
  have hget : ∀ i, i < k → (ops.toList.take k)[i]? = ops[i]? := fun i hi => by rw [List.getElem?_take, if_pos hi]; simp
  have hgo : ∀ i o, (ops.toList.take k)[i]? = some o → i < k ∧ ops[i]? = some o := fun i o ho => by
    have hi : i < k := by
      rw [List.getElem?_take] at ho
      split at ho
      · assumption
      · cases ho
    exact ⟨hi, by rw [← hget i hi]; exact ho⟩
  have hkd : ∀ j o, j < k → ops[j]? = some o → dstOk n o.dst := fun j o hj ho => by
    obtain ⟨x, _, hst⟩ := head_at _ _ _ 0 hv j o (by rw [hget j hj]; exact ho)
    exact hst.1
  -- what the variables' operations yield
  have hall : ∀ (q i : Nat) (st1 : St), i + q = k + e → k ≤ i → aOps P n ops (ops.toList.drop i) K st1 → ∀ j, i ≤ j → j < k + e → ∃ o t d z, ops[j]? = some o ∧ o.guard = none ∧ o.op = .alloc t ∧ o.dst = some d ∧ d < n ∧ zeroT P t = some z := by
    intro q
    induction q with
    | zero => intro i st1 hi _ _ j h1 h2; omega
    | succ q ih =>
      intro i st1 hi hki hops j h1 h2
      obtain ⟨o, t, d, ho, hg, hop, hd, _⟩ := alloc_at hk hki (by omega : i < k + e)
      have hlt : i < ops.toList.length := by simpa using (Array.getElem?_eq_some_iff.1 ho).1
      rw [List.drop_eq_getElem_cons hlt] at hops
      have hoe : ops.toList[i] = o := by have := (Array.getElem?_eq_some_iff.1 ho).2; simp [this]
      rw [hoe] at hops
      unfold aOps at hops
      rw [hg] at hops
      simp only at hops
      unfold aOp at hops
      rw [hop] at hops
      have hp0 : aPure P (aEv st1.E) st1.hp (.alloc t) = none := rfl
      rw [hp0] at hops
      simp only at hops
      cases hz : zeroT P t with
      | none =>
        have hh0 : aHeap P (aEv st1.E) st1.hp st1.nx (.alloc t) = none := by show (zeroT P t).map _ = _; rw [hz]; rfl
        rw [hh0] at hops
        exact hops.elim
      | some z =>
        have hh0 : aHeap P (aEv st1.E) st1.hp st1.nx (.alloc t) = some (.ptr st1.nx 0, (st1.nx, ⟨t, 0, z⟩) :: st1.hp, st1.nx + 1) := by show (zeroT P t).map _ = _; rw [hz]; rfl
        simp only [hh0, hd] at hops
        rcases Nat.eq_or_lt_of_le h1 with h3 | h3
        · subst h3; exact ⟨o, t, d, z, ho, hg, hop, hd, hops.1, hz⟩
        · exact ih (i + 1) _ (by omega) (by omega) hops.2 j (by omega) h2
  have hall := hall e k st' rfl (Nat.le_refl _) htail
  have main : ∀ (fuel : Nat) (listed : Array Bool) (a : Act) (w : World) (R : Nat → Option (TypeId × Array Value)), cnt listed = fuel → listed.size = ops.size → (∀ i o, ops[i]? = some o → listed.getD i false = true → ∀ e ∈ o.after, Region.binds .any e = true → listed.getD e.on false = true) →
      (∀ i, k + e ≤ i → listed.getD i false = false) → SimR F (EL (fun j => listed.getD j false) st.E 0 (ops.toList.take k) xs) st.hp st.nx R a w →
      (∀ d r, R d = some r → ∃ j o, k ≤ j ∧ j < k + e ∧ listed.getD j false = true ∧ ops[j]? = some o ∧ o.dst = some d ∧ o.op = .alloc r.1 ∧ zeroT P r.1 = some (r.2.toList.map .s)) → (∀ j o d, k ≤ j → j < k + e → listed.getD j false = true → ops[j]? = some o → o.dst = some d → ∃ r, R d = some r) → wpAny P .any ops Q fuel listed a w := by
    have toTail : ∀ (fuel : Nat) (listed : Array Bool) (a : Act) (w : World) (R : Nat → Option (TypeId × Array Value)), cnt listed = fuel → listed.size = ops.size → (∀ i o, ops[i]? = some o → listed.getD i false = true → ∀ e ∈ o.after, Region.binds .any e = true → listed.getD e.on false = true) → (∀ i, k + e ≤ i → listed.getD i false = false) → (∀ j, j < k + e → late ops j = false → listed.getD j false = true) → (∀ j, k ≤ j → j < k + e → listed.getD j false = true) →
        SimR F (EL (fun j => listed.getD j false) st.E 0 (ops.toList.take k) xs) st.hp st.nx R a w →
        (∀ d r, R d = some r → ∃ j o, k ≤ j ∧ j < k + e ∧ listed.getD j false = true ∧ ops[j]? = some o ∧ o.dst = some d ∧ o.op = .alloc r.1 ∧ zeroT P r.1 = some (r.2.toList.map .s)) → (∀ j o d, k ≤ j → j < k + e → listed.getD j false = true → ops[j]? = some o → o.dst = some d → ∃ r, R d = some r) → wpAny P .any ops Q fuel listed a w := by
      intro fuel listed a w R hc hsz hcl htl hnl hal hs hR1 hR2
      have hful := hfull (fun _ => true) (fun _ => rfl) 0
      rw [← he1, ← he2] at hs
      refine take_all hn hk hkd hQ fuel listed hc hsz htl hal (fun j hj _ hjl => hnl j (by omega) hjl) hcl e k rfl (Nat.le_refl _) htail hs (fun t y ho hy _ => ?_) (fun d r hr => ?_) (fun j o d h1 h2 h3 h4 => hR2 j o d h1 h2 (hal j h1 h2) h3 h4) (fun j o d hj hjl ho hd => ?_) (fun j o h1 h2 => by omega)
      · rw [← hy, hful]
        refine EL_congr _ _ t _ _ _ _ 0 rfl (fun i oi hi hdi => ?_)
        obtain ⟨hik, hi'⟩ := hgo i oi hi
        simp only [Nat.zero_add]
        cases hl : listed.getD i false with
        | true => rfl
        | false =>
          have := open_iff.2 ⟨i, oi, (by omega : i < k + e), hl, hi', hdi⟩
          rw [ho] at this; cases this
      · obtain ⟨j, o, h1, h2, _, h4⟩ := hR1 d r hr
        exact ⟨j, o, h1, h2, h4⟩
      · have hjk : j < k := by
          rcases Nat.lt_or_ge j k with h1 | h1
          · exact h1
          · rw [hal j h1 hj] at hjl; cases hjl
        have hlt : late ops j = true := by
          cases hl : late ops j with
          | true => rfl
          | false => rw [hnl j hj hl] at hjl; cases hjl
        obtain ⟨o', d', ho', hg, hslot, hd', hlook⟩ := late_at hlt
        rw [ho] at ho'; injection ho' with ho'; subst ho'
        obtain ⟨x, hx, hst⟩ := head_at _ _ _ 0 hv j o (by rw [hget j hjk]; exact ho)
        have hst2 := hst.2
        rw [hg] at hst2
        have hval := evals_slot hslot hst2
        refine ⟨hlt, x, ?_, ?_⟩
        · have hev : ∀ o' ∈ o.op.operands.toList, aEv st'.E o' = aEv (EL (fun i => decide (i < 0 + j)) st.E 0 (ops.toList.take k) xs) o' := ev_congr (fun t ht => by
            rw [hful]
            refine EL_congr _ _ t _ _ _ _ 0 rfl (fun i oi hi hdi => ?_)
            obtain ⟨_, hi'⟩ := hgo i oi hi
            rcases Nat.lt_or_ge i j with h1 | h1
            · symm; simp only [Nat.zero_add]; exact decide_eq_true h1
            · exact absurd (List.mem_append_left _ ht) (hlook i oi t h1 hi' hdi))
          rw [pure_congr o.op hev, aVal_slot (hp' := st.hp) hslot]; exact hval
        · rw [hful]
          exact EL_hit _ d _ _ _ 0 j o x (by rw [hget j hjk]; exact ho) hx hd rfl (fun i oi hi hij hdi => by
            obtain ⟨_, hi'⟩ := hgo i oi hi
            exact ((drawOkL_at hL ho).2.2 (by omega) i oi d hi' hij hdi).1 hd)
    intro fuel
    induction fuel with
    | zero =>
      intro listed a w R hc hsz hcl htl hs hR1 hR2
      exact toTail 0 listed a w R hc hsz hcl htl (fun j hj _ => cnt_zero hc j (by omega)) (fun j _ hj => cnt_zero hc j (by omega)) hs hR1 hR2
    | succ fuel ih =>
      intro listed a w R hc hsz hcl htl hs hR1 hR2
      by_cases hhead : (∀ j, j < k + e → late ops j = false → listed.getD j false = true) ∧ ∀ j, k ≤ j → j < k + e → listed.getD j false = true
      · exact toTail _ listed a w R hc hsz hcl htl hhead.1 hhead.2 hs hR1 hR2
      · refine ⟨fun h0 => ?_, fun i hi => ?_⟩
        · exact absurd ⟨fun j hj _ => all_listedL hL h0 hsz j (by omega), fun j _ hj => all_listedL hL h0 hsz j (by omega)⟩ hhead
        · obtain ⟨hun, o, ho, hafter⟩ := mem_ready.1 hi
          have hisz : i < ops.size := (Array.getElem?_eq_some_iff.1 ho).1
          have hunf : listed.getD i false = false := by
            have hlt : i < listed.size := by omega
            simp [hlt] at hun ⊢; exact hun
          have hike : i < k + e := by
            rcases Nat.lt_or_ge i (k + e) with h1 | h1
            · exact h1
            · refine absurd ⟨fun j hj hjl => ?_, fun j hkj hj => ?_⟩ hhead
              · rcases (drawOkL_at hL ho).2.1 h1 j (by omega) with h2 | ⟨_, h2, _⟩
                · exact edgeT_ready hcl hi h2
                · rw [h2] at hjl; cases hjl
              · rcases (drawOkL_at hL ho).2.1 h1 j (by omega) with h2 | ⟨_, h2, _⟩
                · exact edgeT_ready hcl hi h2
                · obtain ⟨o1, t1, d1, ho1, _, hop1, _⟩ := alloc_at hk hkj hj
                  obtain ⟨o2, d2, ho2, _, hslot, _⟩ := late_at h2
                  rw [ho1] at ho2; injection ho2 with ho2; subst ho2
                  rw [hop1] at hslot; simp [slotOp] at hslot
          have hcs := cnt_set (l := listed) (i := i) (by omega) hun
          have keep : ∀ q, listed.getD q false = true → (listed.setIfInBounds i true).getD q false = true := fun q hq => getD_set_true hq
          have hiset : (listed.setIfInBounds i true).getD i false = true := by
            have hlt : i < listed.size := by omega
            simp [hlt]
          have hcl' : ∀ q o, ops[q]? = some o → (listed.setIfInBounds i true).getD q false = true → ∀ e ∈ o.after, Region.binds .any e = true → (listed.setIfInBounds i true).getD e.on false = true := fun j o' hj hl e he hb => by
            by_cases hji : j = i
            · subst hji
              rw [ho] at hj; injection hj with hj; subst hj
              exact keep _ (hafter e he hb)
            · refine keep _ (hcl j o' hj ?_ e he hb)
              rw [getD_set_ne false (Ne.symm hji)] at hl; exact hl
          have htl' : ∀ j, k + e ≤ j → (listed.setIfInBounds i true).getD j false = false := fun j hj => by rw [getD_set_ne false (by omega)]; exact htl j hj
          by_cases hik : i < k
          · -- an operation of the head
            obtain ⟨x, hx, hst⟩ := head_at _ _ _ 0 hv i o (by rw [hget i hik]; exact ho)
            have hst' : StepV P n ops st.hp st.nx (EL (fun j => listed.getD j false) st.E 0 (ops.toList.take k) xs) o x := by
              refine step_congr (fun t ht => ?_) hst
              refine EL_congr _ _ t _ _ _ _ 0 rfl (fun j o' hj hd => ?_)
              obtain ⟨hjk, hj'⟩ := hgo j o' hj
              simp only [Nat.zero_add]
              by_cases hji : j = i
              · subst hji; rw [hunf]; simp
              · obtain ⟨_, h2⟩ := (drawOkL_at hL ho).2.2 hike j o' t hj' hji hd
                obtain ⟨h3, h4⟩ := h2 ht
                rcases Nat.lt_or_gt_of_ne hji with h5 | h5
                · rw [edgeT_ready hcl hi (h3 h5)]; symm; exact decide_eq_true h5
                · have hnl : listed.getD j false = false := by
                    cases hl : listed.getD j false with
                    | false => rfl
                    | true =>
                      have := edgeT_before (h4 h5) (fun q => listed.getD q false = true) (fun q o'' ho'' hq e he' hb => hcl q o'' ho'' hq e he' hb) (fun o'' ho'' e he' hb => hcl j o'' ho'' hl e he' hb)
                      rw [hunf] at this; cases this
                  rw [hnl]; symm; exact decide_eq_false (by omega)
            refine stepV_soundR hn ho hst' (fun d r hr => ?_) hs (fun a' w' hs' => ?_)
            · obtain ⟨j, oj, h1, h2, _, h4, h5, _⟩ := hR1 d r hr
              obtain ⟨oj', t', d', ho', _, _, hd', hdist, hlook⟩ := alloc_at hk h1 h2
              rw [h4] at ho'; injection ho' with ho'; subst ho'
              rw [h5] at hd'; injection hd' with hd'; subst hd'
              exact ⟨hlook i o hik ho, fun hd => hdist i o d ho (by omega) hd rfl⟩
            · refine ih (listed.setIfInBounds i true) a' w' R (by omega) (by simpa using hsz) hcl' htl' ?_ (fun d r hr => ?_) (fun j oj d h1 h2 h3 h4 h5 => ?_)
              · have : EL (fun j => (listed.setIfInBounds i true).getD j false) st.E 0 (ops.toList.take k) xs = updE (EL (fun j => listed.getD j false) st.E 0 (ops.toList.take k) xs) o.dst x := by
                  funext t
                  unfold updE
                  by_cases hd : o.dst = some t
                  · rw [if_pos hd]
                    refine EL_hit _ t _ _ _ 0 i o x (by rw [hget i hik]; exact ho) hx hd (by simpa using hiset) (fun j o' hj hji hd' => ?_)
                    obtain ⟨_, hj'⟩ := hgo j o' hj
                    exact ((drawOkL_at hL ho).2.2 hike j o' t hj' hji hd').1 hd
                  · rw [if_neg hd]
                    refine EL_congr _ _ t _ _ _ _ 0 rfl (fun j o' hj hd' => ?_)
                    obtain ⟨hjk, hj'⟩ := hgo j o' hj
                    simp only [Nat.zero_add]
                    by_cases hji : j = i
                    · subst hji; rw [ho] at hj'; injection hj' with hj'; subst hj'; exact absurd hd' hd
                    · exact getD_set_ne false (Ne.symm hji)
                rw [this]; exact hs'
              · obtain ⟨j, oj, h1, h2, h3, h4⟩ := hR1 d r hr
                exact ⟨j, oj, h1, h2, keep j h3, h4⟩
              · rw [getD_set_ne false (by omega)] at h3
                exact hR2 j oj d h1 h2 h3 h4 h5
          · -- a variable is made
            obtain ⟨oi, t, d, z, hoi, hg, hop, hd, hdn, hz⟩ := hall i (by omega) hike
            rw [ho] at hoi; injection hoi with hoi; subst hoi
            obtain ⟨oi', t', d', hoi', _, _, hd', hdist, hlook⟩ := alloc_at hk (by omega : k ≤ i) hike
            rw [ho] at hoi'; injection hoi' with hoi'; subst hoi'
            rw [hd] at hd'; injection hd' with hd'; subst hd'
            have hRd : R d = none := by
              cases hr : R d with
              | none => rfl
              | some r =>
                obtain ⟨j, oj, h1, h2, h3, h4, h5, _⟩ := hR1 d r hr
                have hji : j = i := by
                  by_cases hji : j = i
                  · exact hji
                  · exact absurd rfl (hdist j oj d h4 hji h5)
                subst hji; rw [hunf] at h3; cases h3
            refine allocR hn ho hg hop hd hdn hz hRd hs (fun zs hzs a' w' hs' => ?_)
            refine ih (listed.setIfInBounds i true) a' w' (fun x => if x = d then some (t, zs) else R x) (by omega) (by simpa using hsz) hcl' htl' ?_ (fun d' r hr => ?_) (fun j oj d' h1 h2 h3 h4 h5 => ?_)
            · exact (show EL (fun j => (listed.setIfInBounds i true).getD j false) st.E 0 (ops.toList.take k) xs = EL (fun j => listed.getD j false) st.E 0 (ops.toList.take k) xs from by
                funext t
                refine EL_congr _ _ t _ _ _ _ 0 rfl (fun j o' hj hd' => ?_)
                obtain ⟨hjk, hj'⟩ := hgo j o' hj
                simp only [Nat.zero_add]
                exact getD_set_ne false (by omega)) ▸ hs'
            · try dsimp only at hr
              by_cases hne : d' = d
              · rw [if_pos hne] at hr; injection hr with hr; subst hr
                exact ⟨i, o, by omega, hike, hiset, ho, by rw [hne]; exact hd, hop, by rw [hz, hzs]⟩
              · rw [if_neg hne] at hr
                obtain ⟨j, oj, h1, h2, h3, h4⟩ := hR1 d' r hr
                exact ⟨j, oj, h1, h2, keep j h3, h4⟩
            · try dsimp only
              by_cases hji : j = i
              · subst hji; rw [ho] at h4; injection h4 with h4; subst h4
                rw [hd] at h5; injection h5 with h5
                exact ⟨_, if_pos h5.symm⟩
              · rw [getD_set_ne false (Ne.symm hji)] at h3
                obtain ⟨r, hr⟩ := hR2 j oj d' h1 h2 h3 h4 h5
                by_cases hne : d' = d
                · exact ⟨_, if_pos hne⟩
                · exact ⟨r, by rw [if_neg hne]; exact hr⟩
  have hs0 : SimR F st.E st.hp st.nx (fun _ => none) a w.drew := by
    obtain ⟨hd, htn, S, m, hm, hE⟩ := hs
    exact ⟨hd, htn, S, m, fun _ => 0, hm.below (below_drew w), fun t x h _ => ⟨(hE t x h).1, (hE t x h).2.belowW (below_drew w)⟩, fun d r h => (by cases h), fun d d' r r' h => (by cases h)⟩
  have hrep : ∀ j, (Array.replicate ops.size false).getD j false = false := fun j => by
    rcases Nat.lt_or_ge j ops.size with h1 | h1
    · simp [h1]
    · simp [Array.getElem?_eq_none (by simpa using h1 : (Array.replicate ops.size false).size ≤ j)]
  refine main ops.size (Array.replicate ops.size false) a w.drew (fun _ => none) ?_ (by simp) (fun i o ho hl => by rw [hrep] at hl; cases hl) (fun i _ => hrep i) ?_ (fun d r h => (by cases h)) (fun j o d _ _ hl => by rw [hrep] at hl; cases hl)
  · unfold cnt
    rw [Array.toList_replicate, List.countP_replicate]; simp
  · have : EL (fun j => (Array.replicate ops.size false).getD j false) st.E 0 (ops.toList.take k) xs = st.E := funext fun t => EL_none _ t _ _ _ 0 (fun i o _ _ => hrep _)
    rw [this]; exact hs0
theorem aDraw_sound (hn : F.n = n) {id : Nat} {K : St → Prop} {st : St} {a : Act} {w : World} {Q : Exit → Act → World → Prop} (h : aDraw P n ops K st) (hs : Sim F st a w) (hQ : ∀ st' a' w', K st' → Sim F st' a' w' → Q .normal a' w') :
    (Code.region id ops true).wp P Q a w := by
  obtain ⟨hmix, k, hk | hk | ⟨e, hk⟩, hh⟩ := h
  · exact aDraw_sound1 hn ⟨hmix, k, hk, hh⟩ hs hQ
  · exact aDraw_soundL hn ⟨hmix, k, hk, hh⟩ hs hQ
  · exact aDraw_soundE hn ⟨hmix, k, e, hk, hh⟩ hs hQ
end
end Go.Proofs.Ytgggekjhfdkgkaa.Ab
