/- The walk of netting.Positions, its loop. -/
import Derived.Test.YtgggekjhfdkgkaaNetP
namespace Go.Proofs.Ytgggekjhfdkgkaa
open Go.RowKit Go.Shelf

theorem Nt.posL_len {l : List Nt.Debt} : ∀ {n : Nat} {ps : List Rat}, Nt.posL l n = some ps → ps.length = n
  | 0, ps, h => by injection h with h; subst h; rfl
  | n + 1, ps, h => by
    unfold Nt.posL at h
    cases h1 : Nt.posL l n with
    | none => rw [h1] at h; cases h
    | some qs =>
      rw [h1] at h
      cases h2 : Nt.pos l n with
      | none => rw [h2] at h; cases h
      | some r => rw [h2] at h; injection h with h; subst h; simp [Nt.posL_len h1]
theorem Nt.posL_next {l : List Nt.Debt} {k : Nat} {ps : List Rat} {r : Rat} (h : Nt.posL l k = some ps) (hr : Nt.pos l k = some r) : Nt.posL l (k + 1) = some (ps ++ [r]) := by
  rw [Nt.posL, h, hr]
theorem Nt.posL_none {l : List Nt.Debt} {k : Nat} {ps : List Rat} (h : Nt.posL l k = some ps) (hr : Nt.pos l k = none) : ∀ n, k < n → Nt.posL l n = none
  | 0, hn => absurd hn (by omega)
  | n + 1, hn => by
    by_cases e : k = n
    · subst e; rw [Nt.posL, h, hr]
    · rw [Nt.posL, Nt.posL_none h hr n (by omega)]
theorem set_fill (ps : List Rat) (r : Rat) (m : Nat) (x : Int × Int) : (ps.map pr ++ List.replicate (m + 1) x).set ps.length (r.num, (r.den : Int)) = (ps ++ [r]).map pr ++ List.replicate m x := by
  rw [List.set_append_right _ _ (by simp)]
  simp [List.replicate_succ]

theorem sum_is (g : Nat) (cb : Array Value) (s : Nt.Debt → Int) (A : Option Addr) (l : List Nt.Debt) (c : Nat) (a b d : Int) (w : World) (hl : l.length ≤ 1000000) (hok : ∀ x ∈ l, Rt.ok x.n x.d = true) (hh : Debts w A l) (hv : Hid (Nt.res (Nt.sumO s l 0) = (a, b, d)))
    (eg : ∀ args w, (callFunc g args).run Try.prog w = .ok (.enter g args) w)
    (hf : ∀ w', Below w.heap.size w w' → ∀ x ∈ l, Calls Try.prog g (#[dval x] ++ cb) w' fun e w'' => e = .returned (.int .i64 (s x)) ∧ Below w'.heap.size w' w'') :
    Calls Try.prog 26 #[.slice A l.length c, .func (.func g) #[] cb] w fun e w' => e = retR a b d ∧ Below w.heap.size w w' := by
  have h := sum_any g cb s A l c w hl hok hh eg hf
  rw [hv.out] at h; exact h

theorem positions_no (m : Int) (A : Option Addr) (l : List Nt.Debt) (c : Nat) (w : World) (hl : l.length ≤ 1000000) (hn : ∀ x ∈ l, -9223372036854775808 ≤ x.n ∧ x.n ≤ 9223372036854775807) (hh : Debts w A l) (hv : Nt.valid m l = false) :
    Calls Try.prog 10 #[.int .i64 m, .slice A l.length c] w fun e w' => e = .returned (.tuple #[.slice none 0 0, .int .i64 1]) ∧ Below w.heap.size w w' := by
  have HC := Lib.hid (valid_any m A l c false w hl hn hh (Lib.hid hv))
  clear hv hh hn
  go_enter Try.func10, Try.ntmps10
  go_wp2_with (go_at_call 16; refine HC.out.mono ?_; rintro e w' ⟨rfl, hb⟩)
  exact bodyPost_ret (v := .tuple #[.slice none 0 0, .int .i64 1]) (by simp [results, Try.results10, go_sem]) rfl ⟨rfl, hb⟩

abbrev retS (B n : Nat) (c : Int) : Ending := .returned (.tuple #[.slice (some ⟨B, 0, none⟩) n n, .int .i64 c])

set_option maxRecDepth 100000 in
theorem positions_ok (n : Nat) (A : Option Addr) (l : List Nt.Debt) (c : Nat) (w : World) (hl : l.length ≤ 1000000) (hn : ∀ x ∈ l, -9223372036854775808 ≤ x.n ∧ x.n ≤ 9223372036854775807) (hh : Debts w A l) (hv : Nt.valid n l = true) :
    Calls Try.prog 10 #[.int .i64 n, .slice A l.length c] w fun e w' =>
      (Nt.posL l n = none ∧ e = .returned (.tuple #[.slice none 0 0, .int .i64 2]) ∨ ∃ ps B, Nt.posL l n = some ps ∧ e = retS B n 0 ∧ w.heap.size ≤ B ∧ B < w'.heap.size ∧ Own2 w' B (ps.map pr)) ∧ Below w.heap.size w w' := by
  have HC := Lib.hid (valid_any n A l c true w hl hn hh (Lib.hid hv))
  obtain ⟨hm, _, hd⟩ := Nt.valid_iff.1 hv
  have HK : Hid (∀ x ∈ l, Rt.ok x.n x.d = true) := Lib.hid fun x hx => (Nt.okD_iff.1 (hd x hx)).2.2.2.1
  have HH := Lib.hid hh
  clear hv hh hn hd
  have hmk : ∀ w : World, (Instr.makeSlice 24 (.int .i64 (n : Int)) (.int .i64 (n : Int))).run Try.prog w = .ok (.slice (some ⟨w.heap.size, 0, none⟩) n n) (w.alloc (.cells (madeCells #[.int .i64 0, .int .i64 0] (n * 2)) 34)) := by
    intro w
    have hr := run_make (P := Try.prog) w 24 34 _ _ rfl rfl rfl .i64 .i64 n n (by omega) (by omega) (by show (16 : Int) * n ≤ _; omega) (by omega)
    simp only [Int.toNat_natCast] at hr
    exact hr
  go_enter Try.func10, Try.ntmps10
  go_wp2_with (go_at_call 16; refine HC.out.mono ?_; rintro e w' ⟨rfl, hb⟩)
  go_loopg [18] n (fun kx s18 wr => ∃ (k : Nat) (ps : List Rat), k ≤ n ∧ n - k ≤ kx ∧ s18 = .int .i64 k ∧ ps.length = k ∧ Aside (Nt.posL l k = some ps) ∧ Below w.heap.size w wr ∧ w'.heap.size < wr.heap.size ∧ Own2 wr w'.heap.size (ps.map pr ++ List.replicate (n - k) (0, 0)))
  case atStart => exact ⟨0, [], by omega, by omega, rfl, rfl, rfl, hb.alloc hb.size _, by simp, Own2.new _ _ _⟩
  case round =>
    obtain ⟨k, ps, hk, hkx, rfl, hlen, I, hbw, hlt, hO⟩ := hrel
    have hW1 : Below wr.heap.size wr (wr.alloc (.cells #[.int .i64 k] 3)) := below_alloc (Below.refl _ _) _
    have p0 : (wr.alloc (.cells #[.int .i64 k] 3)).cell? ⟨wr.heap.size, 0, none⟩ = some (.int .i64 k) := by go_simp
    by_cases hkn : k < n
    · have hO' := Lib.hid (Own2.keep hO hW1 hlt)
      have hDe := HH.out.keep (hbw.trans (hW1.mono hbw.size))
      clear hO
      obtain ⟨v, hsv⟩ : ∃ v, Nt.pos l k = v := ⟨_, rfl⟩
      have HS := fun (a b d : Int) (h : Hid (Nt.res v = (a, b, d))) => sum_is 27 #[.pointer (some ⟨wr.heap.size, 0, none⟩)] (Nt.sgnP k) A l c a b d (wr.alloc (.cells #[.int .i64 k] 3)) hl HK.out hDe (Lib.hid (by have := h.out; rw [← hsv] at this; exact this)) (enters_of Try.func27 (by kernel_rfl) rfl) (fun w' hw x hx => sgnP_any x k _ w' (Kin.cell p0 ⟨w', hw⟩))
      cases v with
      | none =>
        have HC2 := Lib.hid (HS 0 0 2 (Lib.hid rfl))
        have HN := Lib.hid (Nt.posL_none I.out hsv n hkn)
        clear HS hsv hDe
        go_wp2_with (go_at_call 26; refine HC2.out.mono ?_; rintro e w'' ⟨rfl, hb2⟩)
        exact bodyPost_ret (v := .tuple #[.slice none 0 0, .int .i64 2]) (by simp [results, Try.results10, go_sem]) rfl ⟨.inl ⟨HN.out, rfl⟩, (hbw.trans (hW1.mono hbw.size)).trans ((hb2.mono (Nat.le_trans hbw.size hW1.size)).alloc (Nat.le_trans (Nat.le_trans hbw.size hW1.size) hb2.size) _)⟩
      | some r =>
        have HC2 := Lib.hid (HS r.num r.den 0 (Lib.hid rfl))
        have HN := Lib.hid (Nt.posL_next I.out hsv)
        clear HS hsv hDe
        go_wp2_with fail
        refine HC2.out.mono ?_
        rintro e w'' ⟨rfl, hb2⟩
        have hb3 : Below wr.heap.size wr (w''.alloc (.cells #[.int .i64 r.num, .int .i64 r.den] 34)) := (hW1.trans (hb2.mono hW1.size)).alloc (Nat.le_trans hW1.size hb2.size) _
        have P0 : (w''.alloc (.cells #[.int .i64 r.num, .int .i64 r.den] 34)).cell? ⟨wr.heap.size, 0, none⟩ = some (.int .i64 k) := Kin.cell p0 ⟨_, hb2.alloc hb2.size _⟩
        have d0 : (w''.alloc (.cells #[.int .i64 r.num, .int .i64 r.den] 34)).cell? ⟨w''.heap.size, 0, none⟩ = some (.int .i64 r.num) := by go_simp
        have d1 : (w''.alloc (.cells #[.int .i64 r.num, .int .i64 r.den] 34)).cell? ⟨w''.heap.size, 1, none⟩ = some (.int .i64 r.den) := by go_simp
        have hO3 := Lib.hid (Own2.keep hO'.out (hb2.alloc hb2.size (.cells #[.int .i64 r.num, .int .i64 r.den] 34)) (Nat.lt_of_lt_of_le hlt hW1.size))
        have hlen3 : k < (ps.map pr ++ List.replicate (n - k) ((0 : Int), (0 : Int))).length := by simp; omega
        obtain ⟨c0, c1, f0, f1⟩ := hO3.out k hlen3
        have hset := Lib.hid (set_fill ps r (n - (k + 1)) (0, 0))
        have hsetO := Lib.hid (Own2.set hO3.out hlen3 r.num r.den)
        have hlt3 : w'.heap.size < (w''.alloc (.cells #[.int .i64 r.num, .int .i64 r.den] 34)).heap.size := Nat.lt_of_lt_of_le hlt hb3.size
        have hwB : w.heap.size ≤ w'.heap.size := hb.size
        generalize (ps.map pr ++ List.replicate (n - k) ((0 : Int), (0 : Int)))[k] = q at *
        go_wp2
        go_roundg (n - (k + 1))
        case measure => omega
        case rel =>
          refine ⟨k + 1, ps ++ [r], by omega, by omega, by go_num, by simp [hlen], HN.out, ((hbw.trans (hb3.mono hbw.size)).setCell hwB _).setCell hwB _, by have h := hlt3; go_simp; simpa using h, ?_⟩
          have h1 := hsetO.out
          have h2 := hset.out
          rw [hlen] at h2
          rw [show n - k = n - (k + 1) + 1 by omega, h2] at h1
          exact h1
    · obtain rfl : k = n := by omega
      have HI := Lib.hid I.out
      have HO := Lib.hid hO
      go_wp2
      exact bodyPost_ret (v := .tuple #[.slice (some ⟨w'.heap.size, 0, none⟩) k k, .int .i64 0]) (by simp [results, Try.results10, go_sem]) rfl ⟨.inr ⟨ps, w'.heap.size, HI.out, rfl, hb.size, hlt, by have := HO.out; simpa using this⟩, hbw⟩
end Go.Proofs.Ytgggekjhfdkgkaa
