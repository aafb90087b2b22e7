/- The walk of netting.sum. -/
import Derived.Test.YtgggekjhfdkgkaaRatB
import Derived.Test.YtgggekjhfdkgkaaOpen
import Derived.Test.YtgggekjhfdkgkaaNetM
namespace Go.Proofs.Ytgggekjhfdkgkaa
open Go.RowKit Go.Shelf

abbrev dcells (x : Nt.Debt) : List Value := [.int .i64 x.f, .int .i64 x.t, .int .i64 x.n, .int .i64 x.d]
abbrev dval (x : Nt.Debt) : Value := .agg #[.int .i64 x.f, .int .i64 x.t, .int .i64 x.n, .int .i64 x.d]
/-- A slice of debts. -/
def Debts (w : World) (A : Option Addr) (l : List Nt.Debt) : Prop := Row w A (l.flatMap dcells)
theorem Debts.keep {w w' : World} {A : Option Addr} {l : List Nt.Debt} (h : Debts w A l) (hb : Below w.heap.size w w') : Debts w' A l := Row.keep h hb
theorem Debts.at_ {w : World} {A : Option Addr} {l : List Nt.Debt} (h : Debts w A l) {k : Nat} (hk : k < l.length) : ∃ b off, A = some ⟨b, off, none⟩ ∧
    w.cell? ⟨b, off + k * 4, none⟩ = some (.int .i64 l[k].f) ∧ w.cell? ⟨b, off + k * 4 + 1, none⟩ = some (.int .i64 l[k].t) ∧ w.cell? ⟨b, off + k * 4 + 2, none⟩ = some (.int .i64 l[k].n) ∧ w.cell? ⟨b, off + k * 4 + 3, none⟩ = some (.int .i64 l[k].d) := by
  have hne : l.flatMap dcells ≠ [] := by
    intro e
    have h2 := flatMap_length (cells := dcells) (C := 4) (fun _ => rfl) l
    rw [e] at h2; simp at h2; omega
  obtain ⟨b, off, rfl, hc⟩ := h hne
  have hget := fun i (hi : i < 4) => flatMap_at (cells := dcells) (C := 4) (fun _ => rfl) l k i hi
  rw [List.getElem?_eq_getElem hk] at hget
  refine ⟨b, off, rfl, hc (k * 4) _ (hget 0 (by decide)), ?_, ?_, ?_⟩
  · have := hc (k * 4 + 1) _ (hget 1 (by decide)); rwa [← Nat.add_assoc] at this
  · have := hc (k * 4 + 2) _ (hget 2 (by decide)); rwa [← Nat.add_assoc] at this
  · have := hc (k * 4 + 3) _ (hget 3 (by decide)); rwa [← Nat.add_assoc] at this

theorem radd_is (an ad bn bd a b c : Int) (w : World) (h : Hid (Rt.add an ad bn bd = (a, b, c))) (n1 : -9223372036854775808 ≤ an) (n2 : an ≤ 9223372036854775807) (m1 : -9223372036854775808 ≤ bn) (m2 : bn ≤ 9223372036854775807) :
    Calls Try.prog 20 #[.agg #[.int .i64 an, .int .i64 ad], .agg #[.int .i64 bn, .int .i64 bd]] w fun e w' => e = retR a b c ∧ Below w.heap.size w w' := by
  have k := radd_any an ad bn bd w n1 n2 m1 m2
  rw [h.out] at k; exact k
theorem rsub_is (an ad bn bd a b c : Int) (w : World) (h : Hid (Rt.add an ad (-bn) bd = (a, b, c))) (n1 : -9223372036854775808 ≤ an) (n2 : an ≤ 9223372036854775807) (m1 : -9223372036854775808 ≤ bn) (m2 : bn ≤ 9223372036854775807) :
    Calls Try.prog 36 #[.agg #[.int .i64 an, .int .i64 ad], .agg #[.int .i64 bn, .int .i64 bd]] w fun e w' => e = retR a b c ∧ Below w.heap.size w w' := by
  have k := rsub_any an ad bn bd w n1 n2 m1 m2
  rw [h.out] at k; exact k

set_option maxRecDepth 100000 in
theorem sum_any (g : Nat) (cb : Array Value) (s : Nt.Debt → Int) (A : Option Addr) (l : List Nt.Debt) (c : Nat) (w : World) (hl : l.length ≤ 1000000) (hok : ∀ x ∈ l, Rt.ok x.n x.d = true) (hh : Debts w A l)
    (eg : ∀ args w, (callFunc g args).run Try.prog w = .ok (.enter g args) w)
    (hf : ∀ w', Below w.heap.size w w' → ∀ x ∈ l, Calls Try.prog g (#[dval x] ++ cb) w' fun e w'' => e = .returned (.int .i64 (s x)) ∧ Below w'.heap.size w' w'') :
    Calls Try.prog 26 #[.slice A l.length c, .func (.func g) #[] cb] w fun e w' => e = ret3 (Nt.res (Nt.sumO s l 0)) ∧ Below w.heap.size w w' := by
  have HH := Lib.hid hh
  have HK := Lib.hid hok
  have HF := Lib.hid hf
  clear hh hok hf
  go_enter Try.func26, Try.ntmps26
  go_wp2_with fail
  go_loopg [7, 13] l.length (fun kx s7 s13 wr => ∃ (k : Nat) (r : Rat), k ≤ l.length ∧ l.length - k ≤ kx ∧ s7 = .int .i64 0 ∧ s13 = .int .i64 k ∧ Aside (Rt.fits r = true) ∧ Aside (Nt.sumO s l 0 = Nt.sumO s (l.drop k) r) ∧
    Below w.heap.size w wr ∧ Box2 wr w.heap.size 0 0 ∧ Box2 wr (w.heap.size + 1) r.num r.den)
  case atStart =>
    refine ⟨0, 0, by omega, by omega, rfl, rfl, Nt.zero_fits, (rfl : Nt.sumO s l 0 = Nt.sumO s (l.drop 0) 0), below_alloc (below_alloc (Below.refl _ _) _) _, (Box2.new _ _ _ _).keep (below_alloc (Below.refl _ _) _), ?_⟩
    have := Box2.new (w.alloc (.cells #[.int .i64 0, .int .i64 0] 34)) 0 1 34
    rw [show (w.alloc (.cells #[.int .i64 0, .int .i64 0] 34)).heap.size = w.heap.size + 1 by simp] at this
    exact this
  case round =>
    obtain ⟨k, r, hk, hkx, rfl, rfl, FR, I, hbw, hb4, hb6⟩ := hrel
    obtain ⟨p0, p1, p2, p3⟩ := hb4
    obtain ⟨q0, q1, q2, q3⟩ := hb6
    by_cases hlt : k < l.length
    · obtain ⟨b, off, rfl, e0, e1, e2, e3⟩ := (HH.out.keep hbw).at_ hlt
      have hx : l[k] ∈ l := List.getElem_mem hlt
      have hd := List.drop_eq_getElem_cons hlt
      generalize l[k] = x at *
      have hok := HK.out x hx
      obtain ⟨o1, o2, o3, _⟩ := Rt.ok_iff.1 hok
      obtain ⟨fr1, fr2⟩ := Rt.fits_iff.1 FR.out
      have rb1 : -9223372036854775808 ≤ r.num := by omega
      have rb2 : r.num ≤ 9223372036854775807 := by omega
      have xb1 : -9223372036854775808 ≤ x.n := by omega
      have xb2 : x.n ≤ 9223372036854775807 := by omega
      have hb1 : Below wr.heap.size wr (wr.alloc (.cells #[.int .i64 x.f, .int .i64 x.t, .int .i64 x.n, .int .i64 x.d] 38)) := below_alloc (Below.refl _ _) _
      have d0 : (wr.alloc (.cells #[.int .i64 x.f, .int .i64 x.t, .int .i64 x.n, .int .i64 x.d] 38)).cell? ⟨wr.heap.size, 0, none⟩ = some (.int .i64 x.f) := by go_simp
      have d1 : (wr.alloc (.cells #[.int .i64 x.f, .int .i64 x.t, .int .i64 x.n, .int .i64 x.d] 38)).cell? ⟨wr.heap.size, 1, none⟩ = some (.int .i64 x.t) := by go_simp
      have d2 : (wr.alloc (.cells #[.int .i64 x.f, .int .i64 x.t, .int .i64 x.n, .int .i64 x.d] 38)).cell? ⟨wr.heap.size, 2, none⟩ = some (.int .i64 x.n) := by go_simp
      have d3 : (wr.alloc (.cells #[.int .i64 x.f, .int .i64 x.t, .int .i64 x.n, .int .i64 x.d] 38)).cell? ⟨wr.heap.size, 3, none⟩ = some (.int .i64 x.d) := by go_simp
      have B4 := Lib.hid (Box2.keep ⟨p0, p1, p2, p3⟩ hb1)
      have B6 := Lib.hid (Box2.keep ⟨q0, q1, q2, q3⟩ hb1)
      obtain ⟨v, hsv⟩ : ∃ v, s x = v := ⟨_, rfl⟩
      have HC := HF.out (wr.alloc (.cells #[.int .i64 x.f, .int .i64 x.t, .int .i64 x.n, .int .i64 x.d] 38)) (hbw.trans (hb1.mono hbw.size)) x hx
      rw [hsv] at HC
      have HC := Lib.hid HC
      go_wp2_with fail
      generalize (wr.alloc (.cells #[.int .i64 x.f, .int .i64 x.t, .int .i64 x.n, .int .i64 x.d] 38)) = W1 at *
      refine HC.out.mono ?_
      rintro e w' ⟨rfl, hb⟩
      obtain ⟨y, rfl⟩ := Kin.start hb
      clear hb
      have k0 := fun x : Kin W1 => (B4.out.keep x.below).c0
      have k1 := fun x : Kin W1 => (B4.out.keep x.below).c1
      have k2 := fun x : Kin W1 => (B4.out.keep x.below).f0
      have k3 := fun x : Kin W1 => (B4.out.keep x.below).f1
      have m0 := fun x : Kin W1 => (B6.out.keep x.below).c0
      have m1 := fun x : Kin W1 => (B6.out.keep x.below).c1
      have m2 := fun x : Kin W1 => (B6.out.keep x.below).f0
      have m3 := fun x : Kin W1 => (B6.out.keep x.below).f1
      have e0' := fun x : Kin W1 => x.cell d0
      have e1' := fun x : Kin W1 => x.cell d1
      have e2' := fun x : Kin W1 => x.cell d2
      have e3' := fun x : Kin W1 => x.cell d3
      clear HC p0 p1 p2 p3 q0 q1 q2 q3 e0 e1 e2 e3 d0 d1 d2 d3
      by_cases h1 : v = 1
      · subst h1
        have HADD := Lib.hid (Nt.add_sg1 (x := x) FR.out hok)
        by_cases hfit : Rt.fits (r + Nt.sg (1) x.amt) = true
        · have hadd : Rt.add r.num r.den x.n x.d = ((r + Nt.sg (1) x.amt).num, ((r + Nt.sg (1) x.amt).den : Int), 0) := by rw [HADD.out]; unfold Rt.fit; rw [if_pos hfit]
          have HA := Lib.hid hadd
          have HS := Lib.hid (Nt.sumO_step hd hsv hfit)
          have HFT := Lib.hid hfit
          clear hadd hfit hd hsv
          generalize r + Nt.sg (1) x.amt = r' at *
          go_wp2_with (go_at_call 20; (with_reducible refine (radd_is r.num r.den x.n x.d r'.num r'.den 0 _ HA rb1 rb2 xb1 xb2).mono ?_); rintro e w' ⟨rfl, hb⟩; obtain ⟨y, rfl⟩ := Kin.more (W := W1) (Kin.below _) hb; clear hb)
          go_roundg (l.length - (k + 1))
          case measure => omega
          case rel =>
            exact ⟨k + 1, r', by omega, by omega, rfl, by go_num, HFT.out, I.out.trans HS.out, (((hbw.trans (hb1.mono hbw.size)).trans (y.below.mono (Nat.le_trans hbw.size hb1.size))).setCell (by show w.heap.size ≤ w.heap.size + 1; omega) _).setCell (by show w.heap.size ≤ w.heap.size + 1; omega) _,
              (B4.out.keep y.below).other (by omega) _ _, (B6.out.keep y.below).set _ _⟩
        · have hadd : Rt.add r.num r.den x.n x.d = (0, 0, 2) := by rw [HADD.out]; unfold Rt.fit; rw [if_neg hfit]
          have HA := Lib.hid hadd
          have HS := Lib.hid (Nt.sumO_stop hd hsv hfit)
          clear hadd hfit hd hsv
          go_wp2_with (go_at_call 20; (with_reducible refine (radd_is r.num r.den x.n x.d 0 0 2 _ HA rb1 rb2 xb1 xb2).mono ?_); rintro e w' ⟨rfl, hb⟩; obtain ⟨y, rfl⟩ := Kin.more (W := W1) (Kin.below _) hb; clear hb)
          exact bodyPost_ret (v := .tuple #[.agg #[.int .i64 0, .int .i64 0], .int .i64 2]) (by simp [results, Try.results26, go_sem, k0, k1, k2, k3, m0, m1]) rfl
            ⟨by rw [I.out, HS.out]; rfl, (((((hbw.trans (hb1.mono hbw.size)).trans (y.below.mono (Nat.le_trans hbw.size hb1.size))).setCell (by show w.heap.size ≤ w.heap.size + 1; omega) _).setCell (by show w.heap.size ≤ w.heap.size + 1; omega) _).setCell (Nat.le_refl _) _).setCell (Nat.le_refl _) _⟩
      by_cases h2 : v = -1
      · subst h2
        have HADD := Lib.hid (Nt.add_sgm (x := x) FR.out hok)
        by_cases hfit : Rt.fits (r + Nt.sg (-1) x.amt) = true
        · have hadd : Rt.add r.num r.den (-x.n) x.d = ((r + Nt.sg (-1) x.amt).num, ((r + Nt.sg (-1) x.amt).den : Int), 0) := by rw [HADD.out]; unfold Rt.fit; rw [if_pos hfit]
          have HA := Lib.hid hadd
          have HS := Lib.hid (Nt.sumO_step hd hsv hfit)
          have HFT := Lib.hid hfit
          clear hadd hfit hd hsv
          generalize r + Nt.sg (-1) x.amt = r' at *
          go_wp2_with (go_at_call 36; (with_reducible refine (rsub_is r.num r.den x.n x.d r'.num r'.den 0 _ HA rb1 rb2 xb1 xb2).mono ?_); rintro e w' ⟨rfl, hb⟩; obtain ⟨y, rfl⟩ := Kin.more (W := W1) (Kin.below _) hb; clear hb)
          go_roundg (l.length - (k + 1))
          case measure => omega
          case rel =>
            exact ⟨k + 1, r', by omega, by omega, rfl, by go_num, HFT.out, I.out.trans HS.out, (((hbw.trans (hb1.mono hbw.size)).trans (y.below.mono (Nat.le_trans hbw.size hb1.size))).setCell (by show w.heap.size ≤ w.heap.size + 1; omega) _).setCell (by show w.heap.size ≤ w.heap.size + 1; omega) _,
              (B4.out.keep y.below).other (by omega) _ _, (B6.out.keep y.below).set _ _⟩
        · have hadd : Rt.add r.num r.den (-x.n) x.d = (0, 0, 2) := by rw [HADD.out]; unfold Rt.fit; rw [if_neg hfit]
          have HA := Lib.hid hadd
          have HS := Lib.hid (Nt.sumO_stop hd hsv hfit)
          clear hadd hfit hd hsv
          go_wp2_with (go_at_call 36; (with_reducible refine (rsub_is r.num r.den x.n x.d 0 0 2 _ HA rb1 rb2 xb1 xb2).mono ?_); rintro e w' ⟨rfl, hb⟩; obtain ⟨y, rfl⟩ := Kin.more (W := W1) (Kin.below _) hb; clear hb)
          exact bodyPost_ret (v := .tuple #[.agg #[.int .i64 0, .int .i64 0], .int .i64 2]) (by simp [results, Try.results26, go_sem, k0, k1, k2, k3, m0, m1]) rfl
            ⟨by rw [I.out, HS.out]; rfl, (((((hbw.trans (hb1.mono hbw.size)).trans (y.below.mono (Nat.le_trans hbw.size hb1.size))).setCell (by show w.heap.size ≤ w.heap.size + 1; omega) _).setCell (by show w.heap.size ≤ w.heap.size + 1; omega) _).setCell (Nat.le_refl _) _).setCell (Nat.le_refl _) _⟩
      have HS := Lib.hid (Nt.sumO_skip (r := r) (s := s) hd (by rw [hsv]; exact h1) (by rw [hsv]; exact h2) FR.out)
      have h1' : (v == 1) = false := by simpa using h1
      have h2' : (v == -1) = false := by simpa using h2
      clear hd hsv h1 h2
      go_wp2
      go_roundg (l.length - (k + 1))
      case measure => omega
      case rel =>
        exact ⟨k + 1, r, by omega, by omega, rfl, by go_num, FR, I.out.trans HS.out, (hbw.trans (hb1.mono hbw.size)).trans (y.below.mono (Nat.le_trans hbw.size hb1.size)), B4.out.keep y.below, B6.out.keep y.below⟩
    · obtain rfl : k = l.length := by omega
      go_wp2
      exact bodyPost_ret (v := .tuple #[.agg #[.int .i64 r.num, .int .i64 r.den], .int .i64 0]) (by simp [results, Try.results26, go_sem, p0, p1, p2, p3, q0, q1]) rfl
        ⟨by rw [I.out, List.drop_length]; rfl, (hbw.setCell (Nat.le_refl _) _).setCell (Nat.le_refl _) _⟩
end Go.Proofs.Ytgggekjhfdkgkaa
