/- The walk of slices.ContainsFunc over debts, and of netting.Valid. -/
import Derived.Test.YtgggekjhfdkgkaaNetV
import Derived.Laws.EntriesVeiled
namespace Go.Proofs.Ytgggekjhfdkgkaa
open Go.RowKit Go.Shelf

theorem cell_new (w : World) (cs : Array Value) (T : TypeId) (j : Nat) (v : Value) (h : cs[j]? = some v) : (w.alloc (.cells cs T)).cell? ⟨w.heap.size, j, none⟩ = some v := by
  rw [World.cell?_alloc_at _ _ _ _ rfl]; exact h
/-- The place of the first debt with a property, from place k on; -1 if there is none. -/
def Nt.idx (s : Nt.Debt → Bool) : List Nt.Debt → Nat → Int
  | [], _ => -1
  | x :: l, k => if s x = true then k else Nt.idx s l (k + 1)
theorem Nt.idx_any {s : Nt.Debt → Bool} : ∀ (l : List Nt.Debt) (k : Nat), decide (0 ≤ Nt.idx s l k) = l.any s
  | [], k => rfl
  | x :: l, k => by
    unfold Nt.idx
    cases h : s x
    · simp only [List.any_cons, h, Bool.false_or]; rw [if_neg (by decide)]; exact Nt.idx_any l _
    · simp only [List.any_cons, h, Bool.true_or]; rw [if_pos trivial]; simp
theorem Nt.idx_hit {s : Nt.Debt → Bool} {l l' : List Nt.Debt} {k : Nat} {x : Nt.Debt} (hd : l.drop k = x :: l') (h : s x = true) : Nt.idx s (l.drop k) k = k := by rw [hd, Nt.idx, if_pos h]
theorem Nt.idx_miss {s : Nt.Debt → Bool} {l l' : List Nt.Debt} {k : Nat} {x : Nt.Debt} (hd : l.drop k = x :: l') (h : s x = false) : Nt.idx s (l.drop k) k = Nt.idx s l' (k + 1) := by rw [hd, Nt.idx, if_neg (by rw [h]; decide)]

theorem index_any (g : Nat) (cb : Array Value) (s : Nt.Debt → Bool) (A : Option Addr) (l : List Nt.Debt) (c : Nat) (w : World) (hl : l.length ≤ 1000000) (hh : Debts w A l)
    (eg : ∀ args w, (callFunc g args).run Try.prog w = .ok (.enter g args) w)
    (hf : ∀ w', Below w.heap.size w w' → ∀ x ∈ l, Calls Try.prog g (#[dval x] ++ cb) w' fun e w'' => e = .returned (.bool (s x)) ∧ Below w'.heap.size w' w'') :
    Calls Try.prog 52 #[.slice A l.length c, .func (.func g) #[] cb] w fun e w' => e = .returned (.int .i64 (Nt.idx s l 0)) ∧ Below w.heap.size w w' := by
  have HH := Lib.hid hh
  have HF := Lib.hid hf
  clear hh hf
  go_enter Try.func52, Try.ntmps52
  go_wp2_with fail
  go_loopg [8] l.length (fun kx s8 wr => ∃ (k : Nat), k ≤ l.length ∧ l.length - k ≤ kx ∧ s8 = .int .i64 k ∧ Aside (Nt.idx s l 0 = Nt.idx s (l.drop k) k) ∧ Below w.heap.size w wr)
  case atStart => exact ⟨0, by omega, by omega, rfl, (rfl : Nt.idx s l 0 = Nt.idx s (l.drop 0) 0), Below.refl _ _⟩
  case round =>
    obtain ⟨k, hk, hkx, rfl, I, hbw⟩ := hrel
    by_cases hlt : k < l.length
    · obtain ⟨b, off, rfl, e0, e1, e2, e3⟩ := (HH.out.keep hbw).at_ hlt
      have hx : l[k] ∈ l := List.getElem_mem hlt
      have hd := List.drop_eq_getElem_cons hlt
      generalize l[k] = x at *
      obtain ⟨v, hsv⟩ : ∃ v, s x = v := ⟨_, rfl⟩
      have HC := HF.out wr hbw x hx
      rw [hsv] at HC
      have HC := Lib.hid HC
      go_wp2_with fail
      refine HC.out.mono ?_
      rintro e w' ⟨rfl, hb⟩
      clear HC e0 e1 e2 e3
      cases v
      · have HS := Lib.hid (Nt.idx_miss hd hsv)
        clear hd hsv
        go_wp2
        go_roundg (l.length - (k + 1))
        case measure => omega
        case rel => exact ⟨k + 1, by omega, by omega, by go_num, I.out.trans HS.out, hbw.trans (hb.mono hbw.size)⟩
      · have HS := Lib.hid (Nt.idx_hit hd hsv)
        clear hd hsv
        go_wp2
        go_ret
        exact ⟨ret_int (by rw [I.out, HS.out]), hbw.trans (hb.mono hbw.size)⟩
    · obtain rfl : k = l.length := by omega
      go_wp2
      go_ret
      exact ⟨ret_int (by rw [I.out, List.drop_length]; rfl), hbw⟩

theorem contains_any (g : Nat) (cb : Array Value) (s : Nt.Debt → Bool) (A : Option Addr) (l : List Nt.Debt) (c : Nat) (v : Bool) (w : World) (hl : l.length ≤ 1000000) (hh : Debts w A l) (hv : Hid (l.any s = v))
    (eg : ∀ args w, (callFunc g args).run Try.prog w = .ok (.enter g args) w)
    (hf : ∀ w', Below w.heap.size w w' → ∀ x ∈ l, Calls Try.prog g (#[dval x] ++ cb) w' fun e w'' => e = .returned (.bool (s x)) ∧ Below w'.heap.size w' w'') :
    Calls Try.prog 41 #[.slice A l.length c, .func (.func g) #[] cb] w fun e w' => e = .returned (.bool v) ∧ Below w.heap.size w w' := by
  have hr : decide (0 ≤ Nt.idx s l 0) = v := by rw [Nt.idx_any]; exact hv.out
  have HR := Lib.hid hr
  have HC := Lib.hid (index_any g cb s A l c w hl hh eg hf)
  clear hr hh hf
  generalize Nt.idx s l 0 = r at *
  go_enter Try.func41, Try.ntmps41
  go_wp2_with (go_at_call 52; refine HC.out.mono ?_; rintro e w' ⟨rfl, hb⟩)
  go_ret
  exact ⟨ret_bool HR.out, hb⟩

set_option maxHeartbeats 800000 in
theorem valid_any (m : Int) (A : Option Addr) (l : List Nt.Debt) (c : Nat) (v : Bool) (w : World) (hl : l.length ≤ 1000000) (hok : ∀ x ∈ l, -9223372036854775808 ≤ x.n ∧ x.n ≤ 9223372036854775807) (hh : Debts w A l) (hv : Hid (Nt.valid m l = v)) :
    Calls Try.prog 16 #[.int .i64 m, .slice A l.length c] w fun e w' => e = .returned (.bool v) ∧ Below w.heap.size w w' := by
  have hb1 : Below w.heap.size w ((w.alloc (.cells #[.int .i64 m] 3)).alloc (.cells #[.func (.func 40) #[] #[.pointer (some ⟨w.heap.size, 0, none⟩)]] 55)) := below_alloc (below_alloc (Below.refl _ _) _) _
  have p00 : (w.alloc (.cells #[.int .i64 m] 3)).cell? ⟨w.heap.size, 0, none⟩ = some (.int .i64 m) := by go_simp
  have p0 : ((w.alloc (.cells #[.int .i64 m] 3)).alloc (.cells #[.func (.func 40) #[] #[.pointer (some ⟨w.heap.size, 0, none⟩)]] 55)).cell? ⟨w.heap.size, 0, none⟩ = some (.int .i64 m) := Kin.cell p00 ⟨_, below_alloc (Below.refl _ _) _⟩
  have q0 : ((w.alloc (.cells #[.int .i64 m] 3)).alloc (.cells #[.func (.func 40) #[] #[.pointer (some ⟨w.heap.size, 0, none⟩)]] 55)).cell? ⟨w.heap.size + 1, 0, none⟩ = some (.func (.func 40) #[] #[.pointer (some ⟨w.heap.size, 0, none⟩)]) := by
    have h := cell_new (w.alloc (.cells #[.int .i64 m] 3)) #[Value.func (.func 40) #[] #[.pointer (some ⟨w.heap.size, 0, none⟩)]] 55 0 _ rfl
    rw [show (w.alloc (.cells #[.int .i64 m] 3)).heap.size = w.heap.size + 1 by simp] at h
    exact h
  have HH := Lib.hid hh
  have HN := Lib.hid hok
  clear hh hok p00
  by_cases h1 : 1 ≤ m
  rotate_left
  · have g1 : decide (1 ≤ m) = false := by simpa using h1
    have hr : v = false := by rw [← hv.out]; unfold Nt.valid; rw [decide_eq_false (by omega : ¬ (1 ≤ m ∧ m ≤ 12))]; rfl
    have HR := Lib.hid hr
    clear hr h1
    go_enter Try.func16, Try.ntmps16
    go_wp2
    go_ret
    exact ⟨ret_bool HR.out.symm, hb1⟩
  have g1 : decide (1 ≤ m) = true := by simpa using h1
  by_cases h2 : m ≤ 12
  rotate_left
  · have g2 : decide (m ≤ 12) = false := by simpa using h2
    have hr : v = false := by rw [← hv.out]; unfold Nt.valid; rw [decide_eq_false (by omega : ¬ (1 ≤ m ∧ m ≤ 12))]; rfl
    have HR := Lib.hid hr
    clear hr h1 h2
    go_enter Try.func16, Try.ntmps16
    go_wp2
    go_ret
    exact ⟨ret_bool HR.out.symm, hb1⟩
  have g2 : decide (m ≤ 12) = true := by simpa using h2
  have hm : decide (1 ≤ m ∧ m ≤ 12) = true := decide_eq_true ⟨h1, h2⟩
  have HM := Lib.hid hm
  clear hm h1 h2
  by_cases h3 : l.length ≤ 400
  rotate_left
  · have g3 : decide ((l.length : Int) ≤ 400) = false := by simp; omega
    have hr : v = false := by rw [← hv.out]; unfold Nt.valid; rw [HM.out, decide_eq_false h3]; rfl
    have HR := Lib.hid hr
    clear hr h3
    go_enter Try.func16, Try.ntmps16
    go_wp2
    go_ret
    exact ⟨ret_bool HR.out.symm, hb1⟩
  have g3 : decide ((l.length : Int) ≤ 400) = true := by simp; omega
  have hr : v = !(l.any fun x => !Nt.okD m x) := by
    rw [← hv.out]; unfold Nt.valid; rw [HM.out, decide_eq_true h3]
    simp [List.all_eq_not_any_not]
  obtain ⟨u, hu⟩ : ∃ u, (l.any fun x => !Nt.okD m x) = u := ⟨_, rfl⟩
  rw [hu] at hr
  have HU := Lib.hid hu
  have HR := Lib.hid hr
  clear hr h3 hu
  go_enter Try.func16, Try.ntmps16
  go_wp2_with fail
  generalize ((w.alloc (.cells #[.int .i64 m] 3)).alloc (.cells #[.func (.func 40) #[] #[.pointer (some ⟨w.heap.size, 0, none⟩)]] 55)) = W at *
  have kp := fun x : Kin W => x.cell p0
  have kq := fun x : Kin W => x.cell q0
  have HC := Lib.hid (contains_any 42 #[.pointer (some ⟨w.heap.size + 1, 0, none⟩)] (fun x => !Nt.okD m x) A l c u W hl (HH.out.keep hb1) HU (enters_of Try.func42 (by kernel_rfl) rfl) (fun w' hw x hx => valid2_any x m w.heap.size (w.heap.size + 1) w' (HN.out x hx).1 (HN.out x hx).2 (kp ⟨w', hw⟩) (kq ⟨w', hw⟩)))
  trace "here"
  go_wp2_with (go_at_call 41; refine HC.out.mono ?_; rintro e w' ⟨rfl, hb⟩; obtain ⟨y, rfl⟩ := Kin.start hb; clear hb)
  trace "there"
  go_ret
  exact ⟨ret_bool HR.out.symm, hb1.trans (y.below.mono hb1.size)⟩
end Go.Proofs.Ytgggekjhfdkgkaa
