/- The walk of netting.Net's closures: the first of the extreme positions. -/
import Derived.Test.YtgggekjhfdkgkaaNetQ
namespace Go.Proofs.Ytgggekjhfdkgkaa
open Go.RowKit Go.Shelf

/-- A row of ratios that may be written. -/
abbrev OwnR (w : World) (B : Nat) (ps : List Rat) : Prop := Own2 w B (ps.map pr)
theorem OwnR.at_ {w : World} {B : Nat} {ps : List Rat} (h : OwnR w B ps) {k : Nat} (hk : k < ps.length) :
    w.cell? ⟨B, k * 2, none⟩ = some (.int .i64 (ps.getD k 0).num) ∧ w.cell? ⟨B, k * 2 + 1, none⟩ = some (.int .i64 ((ps.getD k 0).den : Int)) ∧ w.frozen? ⟨B, k * 2, none⟩ = false ∧ w.frozen? ⟨B, k * 2 + 1, none⟩ = false := by
  have h1 := h k (by simpa using hk)
  rw [List.getElem_map] at h1
  have e : ps.getD k 0 = ps[k] := by simp [List.getD_eq_getElem?_getD, hk]
  rw [e]
  exact h1
/-- The comparison of two ratios. -/
def Nt.cmpR (a b : Rat) : Int := if a < b then -1 else if b < a then 1 else 0
theorem Nt.cmp_rat {a b : Rat} (ha : Rt.fits a = true) (hb : Rt.fits b = true) : Rt.cmp a.num a.den b.num b.den = Nt.cmpR a b := by
  unfold Rt.cmp Nt.cmpR; rw [if_pos ⟨Rt.ok_rat ha, Rt.ok_rat hb⟩, Rt.val_rat, Rt.val_rat]
/-- The first extreme position among the first k ones. -/
def Nt.extK (c : Int → Bool) (ps : List Rat) : Nat → Nat
  | 0 => 0
  | k + 1 => if c (Nt.cmpR (ps.getD k 0) (ps.getD (Nt.extK c ps k) 0)) = true then k else Nt.extK c ps k
theorem Nt.extK_lt (c : Int → Bool) (ps : List Rat) (n : Nat) (hn : 0 < n) : ∀ k, k ≤ n → Nt.extK c ps k < n
  | 0, _ => hn
  | k + 1, hk => by
    unfold Nt.extK
    split
    · omega
    · exact Nt.extK_lt c ps n hn k (by omega)

theorem less_any (a b : Int) (w : World) :
    Calls Try.prog 34 #[.int .i64 a, .int .i64 b] w fun e w' => e = .returned (.bool (decide (a < b))) ∧ Below w.heap.size w w' := by
  go_enter Try.func34, Try.ntmps34
  go_wp2
  go_ret
  exact ⟨rfl, Below.refl _ _⟩
theorem more_any (a b : Int) (w : World) :
    Calls Try.prog 35 #[.int .i64 a, .int .i64 b] w fun e w' => e = .returned (.bool (decide (b < a))) ∧ Below w.heap.size w w' := by
  go_enter Try.func35, Try.ntmps35
  go_wp2
  go_ret
  exact ⟨rfl, Below.refl _ _⟩
theorem rcmp_is (a b : Rat) (w : World) (ha : Rt.fits a = true) (hb : Rt.fits b = true) :
    Calls Try.prog 24 #[.agg #[.int .i64 a.num, .int .i64 a.den], .agg #[.int .i64 b.num, .int .i64 b.den]] w fun e w' => e = .returned (.int .i64 (Nt.cmpR a b)) ∧ Below w.heap.size w w' := by
  obtain ⟨h1, h2⟩ := Rt.fits_iff.1 ha
  obtain ⟨h3, h4⟩ := Rt.fits_iff.1 hb
  have h := rcmp_any a.num a.den b.num b.den w (by omega) (by omega) (by omega) (by omega)
  rw [Nt.cmp_rat ha hb] at h; exact h

theorem first_any (g : Nat) (c : Int → Bool) (b B : Nat) (n : Nat) (ps : List Rat) (w : World) (hn : 1 ≤ n) (hn2 : n ≤ 12) (hlen : ps.length = n) (hfit : ∀ k, k < n → Rt.fits (ps.getD k 0) = true)
    (c0 : w.cell? ⟨b, 0, none⟩ = some (.slice (some ⟨B, 0, none⟩) n n)) (hO : OwnR w B ps)
    (eg : ∀ args w, (callFunc g args).run Try.prog w = .ok (.enter g args) w)
    (hf : ∀ (x : Int) (w' : World), Calls Try.prog g #[.int .i64 x, .int .i64 0] w' fun e w'' => e = .returned (.bool (c x)) ∧ Below w'.heap.size w' w'') :
    Calls Try.prog 33 #[.func (.func g) #[] #[], .pointer (some ⟨b, 0, none⟩)] w fun e w' => e = .returned (.int .i64 (Nt.extK c ps n : Nat)) ∧ Below w.heap.size w w' := by
  have HF := Lib.hid hfit
  have HG := Lib.hid hf
  have HO := Lib.hid hO
  have kc := fun x : Kin w => x.cell c0
  clear hfit hf hO
  go_enter Try.func33, Try.ntmps33
  go_wp2_with fail
  go_loopg [4, 8] n (fun kx s4 s8 wr => ∃ (k : Nat) (x : Kin w), k ≤ n ∧ n - k ≤ kx ∧ s8 = .int .i64 k ∧ s4 = .int .i64 (Nt.extK c ps k : Nat) ∧ wr = x.w)
  case atStart => exact ⟨0, ⟨w, Below.refl _ _⟩, by omega, by omega, rfl, rfl, rfl⟩
  case round =>
    obtain ⟨k, x, hk, hkx, rfl, rfl, rfl⟩ := hrel
    by_cases hkn : k < n
    · have hE := Nt.extK_lt c ps n (by omega) k (by omega)
      have hstep : Nt.extK c ps (k + 1) = if c (Nt.cmpR (ps.getD k 0) (ps.getD (Nt.extK c ps k) 0)) = true then k else Nt.extK c ps k := rfl
      have HS := Lib.hid hstep
      clear hstep
      generalize Nt.extK c ps k = o at *
      obtain ⟨a0, a1, -, -⟩ := OwnR.at_ HO.out (k := k) (by omega)
      obtain ⟨b0, b1, -, -⟩ := OwnR.at_ HO.out (k := o) (by omega)
      have ka0 := fun x : Kin w => x.cell a0
      have ka1 := fun x : Kin w => x.cell a1
      have kb0 := fun x : Kin w => x.cell b0
      have kb1 := fun x : Kin w => x.cell b1
      have fa := HF.out k hkn
      have fb := HF.out o hE
      clear a0 a1 b0 b1
      generalize ps.getD k 0 = r at *
      generalize ps.getD o 0 = q at *
      cases hc : c (Nt.cmpR r q)
      all_goals rw [hc] at HS
      all_goals have HC := Lib.hid hc
      all_goals clear hc
      all_goals
       go_wp2
       refine wp_region_kin (by kernel_rfl) (by kernel_rfl) x.below ?_
       repeat (go_big_quiet_step
        (first
        | (go_at_call 24; exact kin_call (rcmp_is r q _ fa fb))
        | (go_at_fn g; have h := HG.out (Nt.cmpR r q); rw [HC.out] at h; exact kin_call (h _))))
       refine wpQuiet_nil ?_
       intro _ hw'
       obtain ⟨x2, hw''⟩ := hw'
       subst hw''
       go_wp2
       go_roundg (n - (k + 1))
       case measure => omega
       case rel => exact ⟨k + 1, x2, by omega, by omega, by go_num, by rw [HS.out]; rfl, rfl⟩
    · obtain rfl : k = n := by omega
      go_wp2
      go_ret
      exact ⟨rfl, x.below⟩
end Go.Proofs.Ytgggekjhfdkgkaa
