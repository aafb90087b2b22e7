/- The walk of netting.Pairs's closure. -/
import Derived.Test.YtgggekjhfdkgkaaNetO
namespace Go.Proofs.Ytgggekjhfdkgkaa
open Go.RowKit Go.Shelf

theorem sgnQ_any (x : Nt.Debt) (a b : Int) (pa pb : Nat) (w : World) (a0 : w.cell? ⟨pa, 0, none⟩ = some (.int .i64 a)) (b0 : w.cell? ⟨pb, 0, none⟩ = some (.int .i64 b)) :
    Calls Try.prog 29 #[dval x, .pointer (some ⟨pa, 0, none⟩), .pointer (some ⟨pb, 0, none⟩)] w fun e w' => e = .returned (.int .i64 (Nt.sgnQ a b x)) ∧ Below w.heap.size w w' := by
  have l1 := World.block_lt_of_cell? w _ a0
  have l2 := World.block_lt_of_cell? w _ b0
  have hb1 : Below w.heap.size w (w.alloc (.cells #[.int .i64 x.f, .int .i64 x.t, .int .i64 x.n, .int .i64 x.d] 38)) := below_alloc (Below.refl _ _) _
  have P0 : (w.alloc (.cells #[.int .i64 x.f, .int .i64 x.t, .int .i64 x.n, .int .i64 x.d] 38)).cell? ⟨pa, 0, none⟩ = some (.int .i64 a) := (Kin.mk _ hb1).cell a0
  have Q0 : (w.alloc (.cells #[.int .i64 x.f, .int .i64 x.t, .int .i64 x.n, .int .i64 x.d] 38)).cell? ⟨pb, 0, none⟩ = some (.int .i64 b) := (Kin.mk _ hb1).cell b0
  have HQ : Hid (Nt.sgnQ a b x = if x.f = a ∧ x.t = b then 1 else if x.f = b ∧ x.t = a then -1 else 0) := Lib.hid rfl
  rcases Classical.em (x.f = a) with h1 | h1 <;> rcases Classical.em (x.t = b) with h2 | h2 <;> rcases Classical.em (x.f = b) with h3 | h3 <;> rcases Classical.em (x.t = a) with h4 | h4
  all_goals
    first
    | have g1 : (x.f == a) = true := by simpa using h1
    | have g1 : (x.f == a) = false := by simpa using h1
    first
    | have g2 : (x.t == b) = true := by simpa using h2
    | have g2 : (x.t == b) = false := by simpa using h2
    first
    | have g3 : (x.f == b) = true := by simpa using h3
    | have g3 : (x.f == b) = false := by simpa using h3
    first
    | have g4 : (x.t == a) = true := by simpa using h4
    | have g4 : (x.t == a) = false := by simpa using h4
    have H := Lib.hid (And.intro h1 (And.intro h2 (And.intro h3 h4)))
    clear HQ h1 h2 h3 h4
    go_enter Try.func29, Try.ntmps29
    go_wp2
    go_ret
    exact ⟨ret_int (by obtain ⟨h1, h2, h3, h4⟩ := H.out; unfold Nt.sgnQ; split <;> (try split) <;> omega), hb1⟩
end Go.Proofs.Ytgggekjhfdkgkaa
