/- The walk of netting.Pairs. -/
import Derived.Test.YtgggekjhfdkgkaaNetX
namespace Go.Proofs.Ytgggekjhfdkgkaa
open Go.RowKit Go.Shelf

theorem pairs_no (m : Int) (A : Option Addr) (l : List Nt.Debt) (c : Nat) (w : World) (hl : l.length ≤ 1000000) (hn : ∀ x ∈ l, -9223372036854775808 ≤ x.n ∧ x.n ≤ 9223372036854775807) (hh : Debts w A l) (hv : Nt.valid m l = false) :
    Calls Try.prog 12 #[.int .i64 m, .slice A l.length c] w fun e w' => e = .returned (.tuple #[.slice none 0 0, .int .i64 1]) ∧ Below w.heap.size w w' := by
  have HC := Lib.hid (valid_any m A l c false w hl hn hh (Lib.hid hv))
  clear hv hh hn
  go_enter Try.func12, Try.ntmps12
  go_wp2_with (go_at_call 16; refine HC.out.mono ?_; rintro e w' ⟨rfl, hb⟩)
  exact bodyPost_ret (v := .tuple #[.slice none 0 0, .int .i64 1]) (by simp [results, Try.results12, go_sem]) rfl ⟨rfl, hb⟩

theorem zeros_own (w : World) (T : TypeId) : Own2 (w.alloc (.cells (Array.replicate 288 (.int .i64 0)) T)) w.heap.size (List.replicate 144 (0, 0)) := fun k hk => by
  rw [List.length_replicate] at hk
  rw [List.getElem_replicate]
  refine ⟨?_, ?_, ?_, ?_⟩
  · exact cell_new _ _ _ _ _ (by rw [Array.getElem?_replicate, if_pos (by omega)])
  · exact cell_new _ _ _ _ _ (by rw [Array.getElem?_replicate, if_pos (by omega)])
  · go_simp
  · go_simp

set_option maxRecDepth 100000 in
set_option maxHeartbeats 2000000 in
theorem pairs_ok (n : Nat) (A : Option Addr) (l : List Nt.Debt) (c : Nat) (w : World) (hl : l.length ≤ 1000000) (hn : ∀ x ∈ l, -9223372036854775808 ≤ x.n ∧ x.n ≤ 9223372036854775807) (hh : Debts w A l) (hv : Nt.valid n l = true) :
    Calls Try.prog 12 #[.int .i64 n, .slice A l.length c] w fun e w' =>
      (Nt.pairsO l n = none ∧ e = .returned (.tuple #[.slice none 0 0, .int .i64 2]) ∨ ∃ out A c, Nt.pairsO l n = some out ∧ e = .returned (.tuple #[.slice A out.length c, .int .i64 0]) ∧ Debts w' A out ∧ ∀ a, A = some a → w.heap.size ≤ a.block) ∧ Below w.heap.size w w' := by
  have HC := Lib.hid (valid_any n A l c true w hl hn hh (Lib.hid hv))
  obtain ⟨hm, _, hd⟩ := Nt.valid_iff.1 hv
  have HK : Hid (∀ x ∈ l, Rt.ok x.n x.d = true) := Lib.hid fun x hx => (Nt.okD_iff.1 (hd x hx)).2.2.2.1
  have HH := Lib.hid hh
  clear hv hh hn hd
  have hzv : ∀ w : World, (zeroValue 49).run Try.prog w = .ok (.agg (Array.replicate 288 (.int .i64 0))) w := fun w => by kernel_rfl
  go_enter Try.func12, Try.ntmps12
  go_wp2_with (go_at_call 16; refine HC.out.mono ?_; rintro e w' ⟨rfl, hb⟩)
  go_loopg [21] (n + 1) (fun kx s21 wr => ∃ (a : Nat), a ≤ n ∧ n - a + 1 ≤ kx ∧ s21 = .int .i64 a ∧ Aside (∀ i j, i < j → j < n → i < a → (Nt.pair l i j).isSome = true) ∧ Below w.heap.size w wr ∧ w'.heap.size < wr.heap.size ∧ Own2 wr w'.heap.size (Nt.grid l n a (a + 1)))
  case atStart =>
    refine ⟨0, by omega, by omega, rfl, (fun i j _ _ h => absurd h (by omega) : ∀ i j, i < j → j < n → i < 0 → (Nt.pair l i j).isSome = true), hb.alloc hb.size _, by simp, ?_⟩
    have h := zeros_own w' 49
    rw [Nt.grid_start l n] at h
    exact h
  case round =>
    obtain ⟨a, ha, hax, rfl, I, hbw, hlt, hO⟩ := hrel
    generalize wr = wo at *
    by_cases han : a < n
    · have hO' := Lib.hid hO
      clear hO
      go_wp2_with fail
      go_loopg [8] (n + 1) (fun kx s8 wr => ∃ (b bp : Nat), a + 1 ≤ b ∧ b ≤ n ∧ n - b + 1 ≤ kx ∧ s8 = .pointer (some ⟨bp, 0, none⟩) ∧ Aside (∀ j, a < j → j < b → (Nt.pair l a j).isSome = true) ∧ Below w.heap.size w wr ∧ w'.heap.size < wo.heap.size ∧ wo.heap.size < bp ∧ wr.cell? ⟨wo.heap.size, 0, none⟩ = some (.int .i64 a) ∧ wr.cell? ⟨bp, 0, none⟩ = some (.int .i64 b) ∧ wr.frozen? ⟨bp, 0, none⟩ = false ∧ Own2 wr w'.heap.size (Nt.grid l n a b))
      case atStart =>
        exact ⟨a + 1, wo.heap.size + 1, by omega, by omega, by omega, rfl, (fun j _ _ => absurd ‹a < j› (by omega) : ∀ j, a < j → j < a + 1 → (Nt.pair l a j).isSome = true), below_alloc (below_alloc hbw _) _, hlt, by omega, by go_simp, by go_simp, by go_simp, hO'.out.keep (below_alloc (below_alloc (Below.refl _ _) _) _) hlt⟩
      case round =>
        obtain ⟨b, bp, hab, hbn, hbx, rfl, IB, hbi, hlt2, hbp, ca, cb, fb, hG⟩ := hrel
        have hli : wo.heap.size < wr.heap.size := World.block_lt_of_cell? wr _ ca
        by_cases hb2 : b < n
        · obtain ⟨v, hsv⟩ : ∃ v, Nt.pair l a b = v := ⟨_, rfl⟩
          have HS := fun (x y d : Int) (h : Hid (Nt.res v = (x, y, d))) => sum_is 29 #[.pointer (some ⟨wo.heap.size, 0, none⟩), .pointer (some ⟨bp, 0, none⟩)] (Nt.sgnQ a b) A l c x y d wr hl HK.out (HH.out.keep hbi) (Lib.hid (by have := h.out; rw [← hsv] at this; exact this)) (enters_of Try.func29 (by kernel_rfl) rfl) (fun w' hw x hx => sgnQ_any x a b _ _ w' (Kin.cell ca ⟨w', hw⟩) (Kin.cell cb ⟨w', hw⟩))
          have HG := Lib.hid hG
          clear hG
          cases v with
          | none =>
            have HC2 := Lib.hid (HS 0 0 2 (Lib.hid rfl))
            have HN := Lib.hid (Nt.pairsO_none (by omega) hb2 hsv)
            clear HS hsv
            go_wp2_with (go_at_call 26; refine HC2.out.mono ?_; rintro e w'' ⟨rfl, hb3⟩)
            exact bodyPost_ret (v := .tuple #[.slice none 0 0, .int .i64 2]) (by simp [results, Try.results12, go_sem]) rfl ⟨.inl ⟨HN.out, rfl⟩, hbi.trans ((hb3.mono hbi.size).alloc (Nat.le_trans hbi.size hb3.size) _)⟩
          | some r =>
            have HC2 := Lib.hid (HS r.num r.den 0 (Lib.hid rfl))
            have HSV := Lib.hid hsv
            clear HS hsv
            go_wp2_with fail
            refine HC2.out.mono ?_
            rintro e w'' ⟨rfl, hb3⟩
            have hb4 : Below wr.heap.size wr (w''.alloc (.cells #[.int .i64 r.num, .int .i64 (r.den : Int)] 34)) := hb3.alloc hb3.size _
            have CA := Kin.cell ca ⟨_, hb4⟩
            have CB := Kin.cell cb ⟨_, hb4⟩
            have FB := (hb4.frozen (p := ⟨bp, 0, none⟩) (World.block_lt_of_cell? wr _ cb)).trans fb
            have d0 : (w''.alloc (.cells #[.int .i64 r.num, .int .i64 (r.den : Int)] 34)).cell? ⟨w''.heap.size, 0, none⟩ = some (.int .i64 r.num) := by go_simp
            have d1 : (w''.alloc (.cells #[.int .i64 r.num, .int .i64 (r.den : Int)] 34)).cell? ⟨w''.heap.size, 1, none⟩ = some (.int .i64 (r.den : Int)) := by go_simp
            have hG4 := Lib.hid (HG.out.keep hb4 (by omega))
            go_wp2_with fail
            generalize (w''.alloc (.cells #[.int .i64 r.num, .int .i64 (r.den : Int)] 34)) = W3 at *
            obtain ⟨q, hq⟩ : ∃ q, (Nt.grid l n a b)[a * 12 + b]? = some q := ⟨_, List.getElem?_eq_getElem (by rw [Nt.grid_len]; omega)⟩
            obtain ⟨qx, qy⟩ := q
            obtain ⟨c0, c1, f0, f1⟩ := Own2.get hG4.out hq
            have e0 : (a * 12 + b) * 2 = a * 24 + b * 2 := by omega
            rw [e0] at c0 c1 f0 f1
            clear e0 hq
            have i1 : (a : Int) < 12 := by omega
            have i2 : (b : Int) < 12 := by omega
            refine wp_region_kin_tail 5 (by kernel_rfl) (by kernel_rfl) (Below.refl _ W3) ?_
            simp only [List.take_succ_cons, List.take_zero, List.drop_succ_cons, List.drop_zero]
            have kCA := fun x : Kin W3 => x.cell CA
            have kCB := fun x : Kin W3 => x.cell CB
            have kd0 := fun x : Kin W3 => x.cell d0
            have kd1 := fun x : Kin W3 => x.cell d1
            have kc0 := fun x : Kin W3 => x.cell c0
            have kc1 := fun x : Kin W3 => x.cell c1
            repeat (go_big_quiet_step (fail))
            have hltB : w'.heap.size < W3.heap.size := Nat.lt_of_lt_of_le (by omega) hb4.size
            have kf0 := fun x : Kin W3 => (x.below.frozen (p := ⟨w'.heap.size, a * 24 + b * 2, none⟩) hltB).trans f0
            have kf1 := fun x : Kin W3 => (x.below.frozen (p := ⟨w'.heap.size, a * 24 + b * 2 + 1, none⟩) hltB).trans f1
            refine wpQuiet_nil ?_
            intro _ hw'
            obtain ⟨x2, hw''⟩ := hw'
            subst hw''
            have hne : w'.heap.size ≠ bp := by omega
            have hset := Lib.hid (Nt.grid_set l n a b r (by omega) hb2 (by omega) HSV.out)
            have hs2 : w'.heap.size < x2.w.heap.size := Nat.lt_of_lt_of_le hltB x2.below.size
            have hs3 : bp < x2.w.heap.size := Nat.lt_of_lt_of_le (Nat.lt_of_lt_of_le (World.block_lt_of_cell? wr _ cb) hb4.size) x2.below.size
            have hwb : w.heap.size ≤ w'.heap.size := hb.size
            have HB5 := Lib.hid ((hbi.trans (hb4.mono hbi.size)).trans (x2.below.mono (Nat.le_trans hbi.size hb4.size)))
            have HO5 := Lib.hid ((hG4.out.keep x2.below hltB).set (k := a * 12 + b) (by rw [Nt.grid_len]; omega) r.num (r.den : Int))
            have HA5 := Lib.hid (kCA x2)
            go_wp2
            go_roundg (n - (b + 1) + 1)
            case measure => omega
            case rel =>
              refine ⟨b + 1, x2.w.heap.size, by omega, by omega, Nat.le_refl _, by rfl, ?_, ((HB5.out.setCell hwb _).setCell hwb _).alloc (by simpa using HB5.out.size) _, hlt2, by omega, ?_, ?_, ?_, ?_⟩
              · intro j h1 h2
                by_cases hj : j = b
                · subst hj; rw [HSV.out]; rfl
                · exact IB.out j h1 (by omega)
              · refine Kin.cell ?_ ⟨_, below_alloc (Below.refl _ _) _⟩
                rw [cell_other (by omega), cell_other (by omega)]; exact HA5.out
              · exact cell_newb _ #[.int .i64 ((b : Int) + 1)] _ _ 0 _ (by simp) rfl
              · go_simp
              · have h := HO5.out
                rw [hset.out, show (a * 12 + b) * 2 = a * 24 + b * 2 by omega] at h
                exact h.keep (below_alloc (Below.refl _ _) _) (by simpa using hs2)
        · have hbe : b = n := by omega
          have HG := Lib.hid (Nt.grid_row l n a b (by omega))
          have HGO := Lib.hid hG
          clear hG
          go_wp2
          go_roundg (n - (a + 1) + 1)
          case measure => omega
          case rel =>
            refine ⟨a + 1, by omega, Nat.le_refl _, by go_num, ?_, hbi, by omega, ?_⟩
            · intro i j h1 h2 h3
              by_cases hi : i = a
              · subst hi; exact IB.out j h1 (by omega)
              · exact I.out i j h1 h2 (by omega)
            · have h := HGO.out
              rw [HG.out] at h; exact h
    · have hae : a = n := by omega
      obtain ⟨G, hGd⟩ : ∃ G, Nt.grid l n a (a + 1) = G := ⟨_, rfl⟩
      rw [hGd] at hO
      have hGl : G.length = 144 := by rw [← hGd, Nt.grid_len]
      have HGD := Lib.hid hGd
      have hR : wo.rangeAt w'.heap.size 0 (pcells G) := hO.range
      have hsz : (Try.prog.info? 49).map (·.size) = some (pcells G).length := by rw [pcells_len, hGl]; rfl
      have HR := Lib.hid hR
      have HSZ := Lib.hid hsz
      clear hR hsz hGd
      go_wp2_with (refine wpList_load_mid rfl 49 (.tmp 6) rfl w'.heap.size 0 rfl (pcells G) _ HR.out rfl rfl HSZ.out ?_)
      have HBW := Lib.hid hbw
      go_loopg [11, 48] 13 (fun kx s11 s48 wr => ∃ (r : Nat), r ≤ 12 ∧ 12 - r + 1 ≤ kx ∧ s48 = .int .i64 r ∧ Below w.heap.size w wr ∧ wr.ownsRow w.heap.size 38 4 s11 (Nt.outK l n (r * 12)).length ((Nt.outK l n (r * 12)).flatMap dcells))
      case atStart => exact ⟨0, by omega, by omega, rfl, hbw, ⟨rfl, .inl ⟨rfl, rfl⟩⟩⟩
      case round =>
        obtain ⟨r, hr, hrx, rfl, hb5, hown⟩ := hrel
        by_cases hr2 : r < 12
        · have hidx := idx_grid (pcells G).toArray r hr2
          have hR24 : ((pcells G).toArray.extract (r * 24) (r * 24 + 24)).size = 24 := by
            rw [Array.size_extract]; simp only [List.size_toArray]; rw [pcells_len, hGl]; omega
          have hone : ((pcells G).toArray.extract (r * 24) (r * 24 + 24)).all (·.oneCell') = true := by
            rw [Array.all_eq_true]
            intro i hi
            rw [Array.getElem_extract, List.getElem_toArray]
            exact pcells_one G _ (List.getElem_mem _)
          have HP := Lib.hid (fun (b : Nat) (hb : b < 12) q (h : G[r * 12 + b]? = some q) => row_pair G r b q hb h)
          generalize (pcells G).toArray.extract (r * 24) (r * 24 + 24) = R at *
          have HR24 := Lib.hid hR24
          have HONE := Lib.hid hone
          clear hR24 hone
          have hth : (wr.alloc (.cells (Array.replicate 24 (.int .i64 0)) 47)).there wr.heap.size 0 R.size := by
            rw [HR24.out]
            intro j hj
            have h : (Array.replicate 24 (Value.int .i64 0))[j]? = some (.int .i64 0) := by rw [Array.getElem?_replicate, if_pos (by omega)]
            exact ⟨by rw [Nat.zero_add, cell_new _ _ _ _ _ h]; rfl, by go_simp⟩
          have HTH := Lib.hid hth
          clear hth
          have hi47 : (Try.prog.info? 47).map (·.size) = some R.size := by rw [HR24.out]; rfl
          have HI47 := Lib.hid hi47
          clear hi47
          have hzv2 : ∀ w : World, (zeroValue 47).run Try.prog w = .ok (.agg (Array.replicate 24 (.int .i64 0))) w := fun w => by kernel_rfl
          go_wp2_with (first
            | refine wpList_store_mid rfl 47 (.tmp 13) (.tmp 51) rfl wr.heap.size 0 R rfl rfl HTH.out HI47.out HONE.out ?_
            | (refine wpList_load_mid rfl 47 (.tmp 13) rfl wr.heap.size 0 rfl R.toList _ (World.rangeAt_setCells_same _ _ _ _ (by rw [Array.length_toList]; exact HTH.out)) rfl rfl (by rw [Array.length_toList]; exact HI47.out) ?_; rw [Array.toArray_toList]))
          have hown4 : ((wr.alloc (.cells (Array.replicate 24 (.int .i64 0)) 47)).setCells wr.heap.size 0 R.toList).ownsRow w.heap.size 38 4 u11 (Nt.outK l n (r * 12)).length ((Nt.outK l n (r * 12)).flatMap dcells) := by
            refine (hown.alloc _).kept (grown_setCells _ _ _ _) ?_
            cases hv : u11.ownBlock with
            | none => exact .inl rfl
            | some k =>
              have := (hown.lt k hv).2
              exact .inr (fun e => absurd (show k = wr.heap.size by simpa using e) (by omega))
          have hb6 : Below w.heap.size w ((wr.alloc (.cells (Array.replicate 24 (.int .i64 0)) 47)).setCells wr.heap.size 0 R.toList) :=
            (hb5.alloc hb5.size _).grown (grown_setCells _ _ _ _) (by have := hb5.size; simp; omega) (fun k e => by rw [show k = wr.heap.size by simpa using e.symm]; exact hb5.size)
          generalize ((wr.alloc (.cells (Array.replicate 24 (.int .i64 0)) 47)).setCells wr.heap.size 0 R.toList) = W4 at *
          clear hown hb5
          go_loopg [11, 53] 13 (fun kx s11 s53 wr => ∃ (b : Nat), b ≤ 12 ∧ 12 - b + 1 ≤ kx ∧ s53 = .int .i64 b ∧ Below w.heap.size w wr ∧ wr.ownsRow w.heap.size 38 4 s11 (Nt.outK l n (r * 12 + b)).length ((Nt.outK l n (r * 12 + b)).flatMap dcells))
          case atStart => exact ⟨0, by omega, by omega, rfl, hb6, hown4⟩
          case round =>
            obtain ⟨b, hb7, hbx, rfl, hb8, hown5⟩ := hrel
            by_cases hb2 : b < 12
            · obtain ⟨q, hq⟩ : ∃ q, Nt.gv l n r b = q := ⟨_, rfl⟩
              have hG : G[r * 12 + b]? = some q := by
                rw [← HGD.out, hae, Nt.grid_end l n (r * 12 + b) (by omega), show (r * 12 + b) / 12 = r by omega, show (r * 12 + b) % 12 = b by omega, hq]
              have hidx2 : ∀ w, (Instr.index 47 (.agg R) (.int .i64 (b : Int))).run Try.prog w = .ok (.agg #[.int .i64 q.1, .int .i64 q.2]) w := fun w => by rw [idx_row R b hb2 w, HP.out b hb2 q hG]
              have hnx : Nt.outK l n (r * 12 + (b + 1)) = Nt.outK l n (r * 12 + b) ++ Nt.dOf r b q := by
                have := Nt.outK_next l n (r * 12 + b)
                rw [show (r * 12 + b) / 12 = r by omega, show (r * 12 + b) % 12 = b by omega, hq] at this
                exact this
              have hqb := Nt.gv_bd l n r b
              rw [hq] at hqb
              have hlenK := Nt.outK_len l n (r * 12 + b)
              have HNX := Lib.hid hnx
              clear hnx hq hG
              generalize Nt.outK l n (r * 12 + b) = out at *
              obtain ⟨qx, qy⟩ := q
              have hqb2 : -1000000000000 ≤ qx ∧ qx ≤ 1000000000000 := by simp at hqb; omega
              obtain ⟨qb1, qb2⟩ := hqb2
              clear hqb
              have H5 := Lib.hid hown5
              have H8 := Lib.hid hb8
              clear hown5 hb8
              have hu : ∀ k, u11.ownBlock = some k → w.heap.size ≤ k := fun k hk => (H5.out.lt k hk).1
              have HU := Lib.hid hu
              clear hu
              obtain ⟨i0, z0, hi0, hz0, hs0, hb0, hzc0⟩ := info_debt
              by_cases hp : 0 < qx
              · have hd : Nt.dOf r b (qx, qy) = [⟨r, b, qx, qy⟩] := by unfold Nt.dOf; rw [if_pos hp]
                have HD := Lib.hid hd
                clear hd
                go_wp2_with (at_builtin; refine Hid.out ?_)
                refine Lib.hid ?_
                refine wpList_append_own _ rfl (.tmp 61) (.tmp 66) 22 rfl w.heap.size 38 i0 z0 4 32 rfl hi0 hz0 hs0 hb0 hzc0 (by decide) _ out.length (out.flatMap dcells) rfl ((H5.out.alloc _).alloc _) ⟨_, 0, none⟩ 1 1 [.int .i64 (r : Int), .int .i64 (b : Int), .int .i64 qx, .int .i64 qy] rfl rfl (fun j u hj => by rw [Addr.add_lit, Nat.zero_add]; exact cell_newb _ #[.int .i64 (r : Int), .int .i64 (b : Int), .int .i64 qx, .int .i64 qy] _ _ j u (by simp) (by simpa using hj)) (by simp [Value.oneCell']) (by simp only [maxLen]; omega) (by omega) (by have := H8.out.size; simp; omega) ?_
                intro v' w6 hown hgrow _
                go_wp2
                go_roundg (12 - (b + 1) + 1)
                case measure => omega
                case rel =>
                  refine ⟨b + 1, by omega, Nat.le_refl _, by go_num, (below_alloc (below_alloc H8.out _) _).grown hgrow (by have := H8.out.size; simp; omega) HU.out, ?_⟩
                  rw [HNX.out, HD.out, List.length_append, List.flatMap_append]
                  simpa using hown
              by_cases hn : qx < 0
              · have hd : Nt.dOf r b (qx, qy) = [⟨b, r, -qx, qy⟩] := by unfold Nt.dOf; rw [if_neg hp, if_pos hn]
                have HD := Lib.hid hd
                clear hd
                go_wp2_with fail
                refine (minus_any qx qy _ (by omega) (by omega)).mono ?_
                rintro e w9 ⟨rfl, hb9⟩
                have hb10 := Lib.hid ((below_alloc (Below.refl wr.heap.size wr) (.cells #[.int .i64 qx, .int .i64 qy] 34)).trans (hb9.mono (by simp)))
                have hown9 := Lib.hid (owns_below H5.out hb10.out)
                have hb11 := Lib.hid (H8.out.trans (hb10.out.mono H8.out.size))
                clear hb9
                go_wp2_with (at_builtin; refine Hid.out ?_)
                refine Lib.hid ?_
                refine wpList_append_own _ rfl (.tmp 72) (.tmp 78) 22 rfl w.heap.size 38 i0 z0 4 32 rfl hi0 hz0 hs0 hb0 hzc0 (by decide) _ out.length (out.flatMap dcells) rfl (hown9.out.alloc _) ⟨_, 0, none⟩ 1 1 [.int .i64 (b : Int), .int .i64 (r : Int), .int .i64 (-qx), .int .i64 qy] rfl rfl (fun j u hj => by rw [Addr.add_lit, Nat.zero_add]; exact cell_newb _ #[.int .i64 (b : Int), .int .i64 (r : Int), .int .i64 (-qx), .int .i64 qy] _ _ j u (by simp) (by simpa using hj)) (by simp [Value.oneCell']) (by simp only [maxLen]; omega) (by omega) (by have := hb11.out.size; simp; omega) ?_
                intro v' w6 hown hgrow _
                go_wp2
                go_roundg (12 - (b + 1) + 1)
                case measure => omega
                case rel =>
                  refine ⟨b + 1, by omega, Nat.le_refl _, by go_num, (below_alloc hb11.out _).grown hgrow (by have := hb11.out.size; simp; omega) HU.out, ?_⟩
                  rw [HNX.out, HD.out, List.length_append, List.flatMap_append]
                  simpa using hown
              · have hd : Nt.dOf r b (qx, qy) = [] := by unfold Nt.dOf; rw [if_neg hp, if_neg hn]
                have HD := Lib.hid hd
                clear hd
                go_wp2
                go_roundg (12 - (b + 1) + 1)
                case measure => omega
                case rel =>
                  refine ⟨b + 1, by omega, Nat.le_refl _, by go_num, below_alloc H8.out _, ?_⟩
                  rw [HNX.out, HD.out, List.append_nil]
                  exact H5.out.alloc _
            · have hbe : b = 12 := by omega
              have H5 := Lib.hid hown5
              have H8 := Lib.hid hb8
              clear hown5 hb8
              go_wp2
              go_roundg (12 - (r + 1) + 1)
              case measure => omega
              case rel =>
                refine ⟨r + 1, by omega, Nat.le_refl _, by go_num, H8.out, ?_⟩
                rw [show (r + 1) * 12 = r * 12 + b by omega]
                exact H5.out
        · have hre : r = 12 := by omega
          have HI := Lib.hid (Nt.pairsB_iff.2 (fun i j h1 h2 => I.out i j h1 h2 (by omega)))
          have H5 := Lib.hid hown
          clear hown
          go_wp2
          obtain ⟨A2, c2, hv2, hD2⟩ := owns_debts H5.out
          exact bodyPost_ret (v := .tuple #[.slice A2 (Nt.outK l n (r * 12)).length c2, .int .i64 0]) (by simp [results, Try.results12, go_sem, hv2]) rfl ⟨.inr ⟨_, A2, c2, by unfold Nt.pairsO; rw [if_pos HI.out, hre], rfl, hD2⟩, hb5⟩
end Go.Proofs.Ytgggekjhfdkgkaa
