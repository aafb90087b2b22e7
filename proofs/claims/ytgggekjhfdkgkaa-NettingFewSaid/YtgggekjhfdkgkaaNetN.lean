/- The walk of netting.Net. -/
import Derived.Test.YtgggekjhfdkgkaaNetO
namespace Go.Proofs.Ytgggekjhfdkgkaa
open Go.RowKit Go.Shelf

theorem net_no (m : Int) (A : Option Addr) (l : List Nt.Debt) (c : Nat) (w : World) (hl : l.length ≤ 1000000) (hn : ∀ x ∈ l, -9223372036854775808 ≤ x.n ∧ x.n ≤ 9223372036854775807) (hh : Debts w A l) (hv : Nt.valid m l = false) :
    Calls Try.prog 14 #[.int .i64 m, .slice A l.length c] w fun e w' => e = .returned (.tuple #[.slice none 0 0, .int .i64 1]) ∧ Below w.heap.size w w' := by
  have HC := Lib.hid (positions_no m A l c w hl hn hh hv)
  clear hv hh hn
  go_enter Try.func14, Try.ntmps14
  go_wp2_with (go_at_call 10; refine HC.out.mono ?_; rintro e w' ⟨rfl, hb⟩)
  exact bodyPost_ret (v := .tuple #[.slice none 0 0, .int .i64 1]) (by simp [results, Try.results14, go_sem]) rfl ⟨rfl, hb.alloc hb.size _⟩

set_option maxRecDepth 100000 in
set_option maxHeartbeats 2000000 in
theorem net_ok (n : Nat) (A : Option Addr) (l : List Nt.Debt) (c : Nat) (w : World) (hl : l.length ≤ 1000000) (hn : ∀ x ∈ l, -9223372036854775808 ≤ x.n ∧ x.n ≤ 9223372036854775807) (hh : Debts w A l) (hv : Nt.valid n l = true) :
    Calls Try.prog 14 #[.int .i64 n, .slice A l.length c] w fun e w' =>
      (Nt.netO l n = none ∧ e = .returned (.tuple #[.slice none 0 0, .int .i64 2]) ∨ ∃ out A c, Nt.netO l n = some out ∧ e = .returned (.tuple #[.slice A out.length c, .int .i64 0]) ∧ Debts w' A out ∧ ∀ a, A = some a → w.heap.size ≤ a.block) ∧ Below w.heap.size w w' := by
  have HC := Lib.hid (positions_ok n A l c w hl hn hh hv)
  have HV := Lib.hid hv
  obtain ⟨hm, _, _⟩ := Nt.valid_iff.1 hv
  clear hv hh hn
  go_enter Try.func14, Try.ntmps14
  go_wp2_with fail
  refine HC.out.mono ?_
  rintro e w1 ⟨(⟨hp, rfl⟩ | ⟨ps0, B, hp, rfl, hB, hlt, hO⟩), hb⟩
  · have HP : Hid (Nt.netO l n = none) := Lib.hid (by unfold Nt.netO; rw [hp]; rfl)
    clear hp
    go_wp2
    exact bodyPost_ret (v := .tuple #[.slice none 0 0, .int .i64 2]) (by simp [results, Try.results14, go_sem]) rfl ⟨.inl ⟨HP.out, rfl⟩, hb.alloc hb.size _⟩
  have HP : Hid (Nt.netO l n = Nt.settle (n + 1) ps0) := Lib.hid (by unfold Nt.netO; rw [hp]; rfl)
  have HG0 : Hid (Nt.Good n ps0) := Lib.hid (Nt.good_init HV.out hp)
  have HO := Lib.hid hO
  have hnz : Nt.nz ps0 ≤ n := by have := Nt.nz_le ps0; rw [HG0.out.len] at this; exact this
  clear hp hO
  go_wp2_with fail
  go_loopg [9] (n + 1) (fun kx s9 wr => ∃ (f : Nat) (ps : List Rat) (out : List Nt.Debt), Nt.nz ps + 1 ≤ kx ∧ Nt.nz ps + 1 ≤ f ∧ f + out.length ≤ n + 1 ∧ Aside (Nt.Good n ps) ∧ Aside (Nt.settle (n + 1) ps0 = (Nt.settle f ps).map (out ++ ·)) ∧ NetW w n B w1.heap.size wr (ps.map pr) s9 out)
  case atStart =>
    refine ⟨n + 1, ps0, [], by omega, by omega, by simp, HG0.out, ?_, hb.alloc hb.size _, hB, hlt, by simp, by go_simp, HO.out.keep ((Below.refl w1.heap.size w1).alloc (Nat.le_refl _) _) hlt, ⟨rfl, .inl ⟨rfl, rfl⟩⟩⟩
    show Nt.settle (n + 1) ps0 = (Nt.settle (n + 1) ps0).map ([] ++ ·)
    simp
  case round =>
    rename_i s9V _
    obtain ⟨f, ps, out, hkx, hf, hfo, G, I, hN⟩ := hrel
    have hG := G.out
    have hlen := hG.len
    have HD := Lib.hid (first_any 34 (fun x => decide (x < 0)) w1.heap.size B n ps wr (by omega) (by omega) hlen (fun k hk => hG.fit _ (Nt.getD_mem (by rw [hlen]; exact hk))) hN.box hN.row (enters_of Try.func34 (by kernel_rfl) rfl) (fun x w' => less_any x 0 w'))
    have HM := fun (x : Kin wr) => first_any 35 (fun x => decide (0 < x)) w1.heap.size B n ps x.w (by omega) (by omega) hlen (fun k hk => hG.fit _ (Nt.getD_mem (by rw [hlen]; exact hk))) ((hN.below x.below).box) ((hN.below x.below).row) (enters_of Try.func35 (by kernel_rfl) rfl) (fun x w' => more_any x 0 w')
    have HM := Lib.hid HM
    have hdm : Nt.extK (fun x => decide (x < 0)) ps n = Nt.dmin ps := by unfold Nt.dmin; rw [hlen]
    have hcm : Nt.extK (fun x => decide (0 < x)) ps n = Nt.cmax ps := by unfold Nt.cmax; rw [hlen]
    rw [hdm] at HD
    rw [hcm] at HM
    have hd := hG.dlt
    have hc := hG.clt
    obtain ⟨a0, a1, fa0, fa1⟩ := OwnR.at_ hN.row (k := Nt.dmin ps) (by omega)
    obtain ⟨b0, b1, fb0, fb1⟩ := OwnR.at_ hN.row (k := Nt.cmax ps) (by omega)
    have kbox := fun x : Kin wr => x.cell hN.box
    have ka0 := fun x : Kin wr => x.cell a0
    have ka1 := fun x : Kin wr => x.cell a1
    have kb0 := fun x : Kin wr => x.cell b0
    have kb1 := fun x : Kin wr => x.cell b1
    have HGD := Lib.hid hG
    have HN := Lib.hid hN
    by_cases hz : ps.getD (Nt.dmin ps) 0 = 0
    · have hz2 := hG.done hz
      have g1 : (ps.getD (Nt.dmin ps) 0).num = 0 := by rw [hz]; rfl
      have g2 : (ps.getD (Nt.cmax ps) 0).num = 0 := by rw [hz2]; rfl
      have HR : Hid (Nt.netO l n = some out) := Lib.hid (by
        rw [HP.out, I.out]
        obtain ⟨f', rfl⟩ : ∃ f', f = f' + 1 := ⟨f - 1, by omega⟩
        rw [Nt.settle, if_pos hz]; simp)
      clear hz hz2 hG hN hdm hcm a0 a1 b0 b1 fa0 fa1 fb0 fb1
      generalize ps.getD (Nt.dmin ps) 0 = D at *
      generalize ps.getD (Nt.cmax ps) 0 = C at *
      generalize Nt.dmin ps = d at *
      generalize Nt.cmax ps = c' at *
      rw [g1] at ka0
      rw [g2] at kb0
      obtain ⟨A', c2, hv', -⟩ := owns_debts HN.out.own
      subst hv'
      go_wp2_with
        (first
        | (go_at_call 33; (with_reducible refine HD.out.mono ?_); rintro e w' ⟨rfl, hb2⟩; obtain ⟨x, rfl⟩ := Kin.start hb2; clear hb2)
        | (go_at_call 33; (with_reducible refine (HM.out _).mono ?_); rintro e w' ⟨rfl, hb2⟩; obtain ⟨y, rfl⟩ := Kin.more (W := wr) (Kin.below _) hb2; clear hb2))
      have hD2 := (HN.out.below y.below).own
      obtain ⟨A3, c3, hv3, hD3⟩ := owns_debts hD2
      cases hv3
      exact bodyPost_ret (v := .tuple #[.slice A' out.length c2, .int .i64 0]) (by simp [results, Try.results14, go_sem]) rfl ⟨.inr ⟨out, A', c2, HR.out, rfl, hD3.1, fun a ha => by have h1 := hD3.2 a ha; have h2 := HN.out.lB; have h3 := HN.out.lL; omega⟩, (HN.out.below y.below).bel⟩
    -- the step
    have hneg := hG.neg hz
    have hne := hG.ne hz
    have fD : Rt.fits (ps.getD (Nt.dmin ps) 0) = true := hG.fit _ (Nt.getD_mem (by omega))
    have fC : Rt.fits (ps.getD (Nt.cmax ps) 0) = true := hG.fit _ (Nt.getD_mem (by omega))
    have fX := hG.fitX
    have g1 : ((ps.getD (Nt.dmin ps) 0).num == 0) = false := by
      rw [beq_eq_false_iff_ne]; intro e; exact hz (Rat.num_eq_zero.1 e)
    have hXdef : Nt.amtX ps = if -(ps.getD (Nt.dmin ps) 0) < ps.getD (Nt.cmax ps) 0 then -(ps.getD (Nt.dmin ps) 0) else ps.getD (Nt.cmax ps) 0 := rfl
    have HG2 : Hid (∀ r, Nt.settle f ps = r → f = (f - 1) + 1 ∧ (Nt.goes ps → r = (Nt.settle (f - 1) (Nt.next ps)).map (Nt.pay ps :: ·)) ∧ (¬ Nt.goes ps → r = none)) := Lib.hid (by
      intro r hr
      obtain ⟨f', rfl⟩ : ∃ f', f = f' + 1 := ⟨f - 1, by omega⟩
      refine ⟨by omega, fun hg => ?_, fun hg => ?_⟩
      · rw [← hr, Nt.settle, if_neg hz, if_pos hg]; rfl
      · rw [← hr, Nt.settle, if_neg hz, if_neg hg])
    have HLESS : Hid (Nt.nz (Nt.next ps) < Nt.nz ps) := Lib.hid (hG.less hz)
    have HNG : Hid (Nt.goes ps → Nt.Good n (Nt.next ps)) := Lib.hid (fun hg => hG.next hz hg)
    have HLEN : Hid (ps.length = n) := Lib.hid hlen
    have HGO : Hid (Nt.goes ps ↔ Rt.fits (ps.getD (Nt.dmin ps) 0 + Nt.amtX ps) = true ∧ Rt.fits (ps.getD (Nt.cmax ps) 0 - Nt.amtX ps) = true) := Lib.hid Iff.rfl
    have HNX : Hid ((Nt.next ps).map pr = ((ps.map pr).set (Nt.dmin ps) (pr (ps.getD (Nt.dmin ps) 0 + Nt.amtX ps))).set (Nt.cmax ps) (pr (ps.getD (Nt.cmax ps) 0 - Nt.amtX ps))) := Lib.hid (by unfold Nt.next; rw [List.map_set, List.map_set])
    have HPAY : Hid (Nt.pay ps = ⟨(Nt.dmin ps : Nat), (Nt.cmax ps : Nat), (Nt.amtX ps).num, ((Nt.amtX ps).den : Int)⟩) := Lib.hid rfl
    have HQL : Hid ((ps.map pr).length = n) := Lib.hid (by rw [List.length_map, hlen])
    have HQD : Hid ((ps.map pr)[Nt.dmin ps]? = some (pr (ps.getD (Nt.dmin ps) 0))) := Lib.hid (by have h : Nt.dmin ps < ps.length := (by omega); simp [List.getD_eq_getElem?_getD, h])
    have HQC : Hid ((ps.map pr)[Nt.cmax ps]? = some (pr (ps.getD (Nt.cmax ps) 0))) := Lib.hid (by have h : Nt.cmax ps < ps.length := (by omega); simp [List.getD_eq_getElem?_getD, h])
    obtain ⟨qs, hqs⟩ : ∃ qs, ps.map pr = qs := ⟨_, rfl⟩
    rw [hqs] at HN HQL HNX HQD HQC
    have qbox := fun (x : Kin wr) o => Kin.allocCell hN.box x o
    have qa0 := fun (x : Kin wr) o => Kin.allocCell a0 x o
    have qa1 := fun (x : Kin wr) o => Kin.allocCell a1 x o
    clear hz hG hN hdm hcm a0 a1 b0 b1 fa0 fa1 fb0 fb1 hlen HGD hqs
    generalize hDD : ps.getD (Nt.dmin ps) 0 = D at *
    generalize hCC : ps.getD (Nt.cmax ps) 0 = C at *
    generalize hdd : Nt.dmin ps = d at *
    generalize hcc : Nt.cmax ps = c' at *
    generalize hXX : Nt.amtX ps = X at *
    have HX := Lib.hid hXdef
    clear hXdef hDD hCC hdd hcc hXX
    obtain ⟨rD1, rD2⟩ := Rt.fits_iff.1 fD
    obtain ⟨rC1, rC2⟩ := Rt.fits_iff.1 fC
    obtain ⟨rX1, rX2⟩ := Rt.fits_iff.1 fX
    have HFD := Lib.hid fD
    have HFC := Lib.hid fC
    have HFX := Lib.hid fX
    have HNEG := Lib.hid hneg
    clear fD fC fX hneg
    go_wp2_with
      (first
      | (go_at_call 33; (with_reducible refine HD.out.mono ?_); rintro e w' ⟨rfl, hb2⟩; obtain ⟨x, rfl⟩ := Kin.start hb2; clear hb2)
      | (go_at_call 33; (with_reducible refine (HM.out _).mono ?_); rintro e w' ⟨rfl, hb2⟩; obtain ⟨y, rfl⟩ := Kin.more (W := wr) (Kin.below _) hb2; clear hb2))
    have hb3 : Below wr.heap.size wr (y.w.alloc (.cells #[.int .i64 C.num, .int .i64 (C.den : Int)] 34)) := y.below.alloc y.below.size _
    have BX := Box2.new y.w C.num C.den 34
    have hbX : w1.heap.size < y.w.heap.size := Nat.lt_of_lt_of_le HN.out.lt y.below.size
    have hvX : u9.ownBlock ≠ some y.w.heap.size := fun e => by have := (HN.out.own.lt _ e).2; have := y.below.size; omega
    have N1 := Lib.hid (HN.out.below hb3)
    generalize y.w.heap.size = bX at *
    generalize (y.w.alloc (.cells #[.int .i64 C.num, .int .i64 (C.den : Int)] 34)) = W1 at *
    clear kbox ka0 ka1 kb0 kb1 qbox qa0 qa1 hb3 HD HM HN
    refine (minus_any D.num D.den W1 (by omega) (by omega)).mono ?_
    rintro e w2 ⟨rfl, hb4⟩
    have hb5 : Below W1.heap.size W1 (w2.alloc (.cells #[.int .i64 (-D.num), .int .i64 (D.den : Int)] 34)) := hb4.alloc hb4.size _
    have N2 := Lib.hid (N1.out.below hb5)
    have BX2 := BX.keep hb5
    have d0 : (w2.alloc (.cells #[.int .i64 (-D.num), .int .i64 (D.den : Int)] 34)).cell? ⟨w2.heap.size, 0, none⟩ = some (.int .i64 (-D.num)) := by go_simp
    have d1 : (w2.alloc (.cells #[.int .i64 (-D.num), .int .i64 (D.den : Int)] 34)).cell? ⟨w2.heap.size, 1, none⟩ = some (.int .i64 (D.den : Int)) := by go_simp
    obtain ⟨x0, x1, x2, x3⟩ := id BX2
    clear BX hb4
    go_wp2_with fail
    generalize w2.heap.size = bY at *
    generalize (w2.alloc (.cells #[.int .i64 (-D.num), .int .i64 (D.den : Int)] 34)) = W2 at *
    have kx0 := fun x : Kin W2 => x.cell x0
    have kx1 := fun x : Kin W2 => x.cell x1
    have kx2 := fun x : Kin W2 => (x.below.frozen (p := ⟨bX, 0, none⟩) BX2.lt).trans x2
    have kx3 := fun x : Kin W2 => (x.below.frozen (p := ⟨bX, 1, none⟩) BX2.lt).trans x3
    have ky0 := fun x : Kin W2 => x.cell d0
    have ky1 := fun x : Kin W2 => x.cell d1
    have HBX := Lib.hid BX2
    have HCM := rcmp_is (-D) C W2 (Nt.fits_neg HFD.out) HFC.out
    change Calls _ _ #[.agg #[.int .i64 (-D.num), .int .i64 (D.den : Int)], .agg #[.int .i64 C.num, .int .i64 (C.den : Int)]] W2 _ at HCM
    clear hb5 x0 x1 x2 x3 d0 d1 BX2 N1
    by_cases hx : -D < C
    · have hcmp : Nt.cmpR (-D) C = -1 := by unfold Nt.cmpR; rw [if_pos hx]
      have hXe : X = -D := by rw [HX.out, if_pos hx]
      rw [hcmp] at HCM
      have HCM := Lib.hid HCM
      clear hcmp hx HX
      subst hXe
      refine HCM.out.mono ?_
      rintro e w3 ⟨rfl, hb6⟩
      obtain ⟨z, rfl⟩ := Kin.start hb6
      clear hb6 HCM
      go_wp2_with fail
      have N3 := Lib.hid (((N2.out.below z.below).other bX hbX hvX 0 (.int .i64 (-D.num))).other bX hbX hvX 1 (.int .i64 (D.den : Int)))
      have BX3 := Lib.hid ((HBX.out.keep z.below).set (-D.num) (D.den : Int))
      generalize ((z.w.setCell ⟨bX, 0, none⟩ (.int .i64 (-D.num))).setCell ⟨bX, 1, none⟩ (.int .i64 (D.den : Int))) = W3 at *
      clear kx0 kx1 kx2 kx3 ky0 ky1 N2 HBX
      have hBbX : B < bX := Nat.lt_trans N3.out.lL hbX
      have HFU : Hid (Rt.add D.num D.den (-D.num) (D.den : Int) = Rt.fit (D + (-D))) := Lib.hid (Nt.add_rat HFD.out HFX.out)
      have HFV : Hid (Rt.add C.num C.den (-(-D.num)) (D.den : Int) = Rt.fit (C - (-D))) := Lib.hid (Nt.sub_rat HFC.out HFX.out)
      obtain ⟨un, ud, ue, hadd⟩ : ∃ a b e, Rt.add D.num D.den (-D.num) (D.den : Int) = (a, b, e) := ⟨_, _, _, rfl⟩
      obtain ⟨vn, vd, ve, hsub⟩ : ∃ a b e, Rt.add C.num C.den (-(-D.num)) (D.den : Int) = (a, b, e) := ⟨_, _, _, rfl⟩
      have HADD := Lib.hid hadd
      have HSUB := Lib.hid hsub
      clear hadd hsub
      obtain ⟨r0, r1, r2, r3⟩ := Own2.get N3.out.row HQD.out
      have kb := fun x : Kin W3 => x.cell N3.out.box
      have kr0 := fun x : Kin W3 => x.cell r0
      have kr1 := fun x : Kin W3 => x.cell r1
      have hltB : B < W3.heap.size := Nat.lt_trans N3.out.lL N3.out.lt
      have kr2 := fun x : Kin W3 => (x.below.frozen (p := ⟨B, d * 2, none⟩) hltB).trans r2
      have kr3 := fun x : Kin W3 => (x.below.frozen (p := ⟨B, d * 2 + 1, none⟩) hltB).trans r3
      have kX0 := fun x : Kin W3 => x.cell BX3.out.c0
      have kX1 := fun x : Kin W3 => x.cell BX3.out.c1
      have KS := Lib.hid (fun w' (hb : Below W3.heap.size W3 w') => (⟨kb ⟨w', hb⟩, kX0 ⟨w', hb⟩, kX1 ⟨w', hb⟩⟩ : w'.cell? ⟨w1.heap.size, 0, none⟩ = some (.slice (some ⟨B, 0, none⟩) n n) ∧ w'.cell? ⟨bX, 0, none⟩ = some (.int .i64 (-D.num)) ∧ w'.cell? ⟨bX, 1, none⟩ = some (.int .i64 (D.den : Int))))
      have KT := Lib.hid (fun (x : Kin W3) => (⟨((N3.out.below x.below).set (k := d) (by rw [HQL.out]; omega) un ud).box, (((BX3.out.keep x.below).oth1 (b' := B) (by omega) (d * 2) (.int .i64 un)).oth1 (b' := B) (by omega) (d * 2 + 1) (.int .i64 ud)).c0, (((BX3.out.keep x.below).oth1 (b' := B) (by omega) (d * 2) (.int .i64 un)).oth1 (b' := B) (by omega) (d * 2 + 1) (.int .i64 ud)).c1⟩ :
        ((x.w.setCell ⟨B, d * 2, none⟩ (.int .i64 un)).setCell ⟨B, d * 2 + 1, none⟩ (.int .i64 ud)).cell? ⟨w1.heap.size, 0, none⟩ = some (.slice (some ⟨B, 0, none⟩) n n) ∧ ((x.w.setCell ⟨B, d * 2, none⟩ (.int .i64 un)).setCell ⟨B, d * 2 + 1, none⟩ (.int .i64 ud)).cell? ⟨bX, 0, none⟩ = some (.int .i64 (-D.num)) ∧ ((x.w.setCell ⟨B, d * 2, none⟩ (.int .i64 un)).setCell ⟨B, d * 2 + 1, none⟩ (.int .i64 ud)).cell? ⟨bX, 1, none⟩ = some (.int .i64 (D.den : Int))))
      go_region_held3 (fun w' => w'.cell? ⟨w1.heap.size, 0, none⟩ = some (.slice (some ⟨B, 0, none⟩) n n) ∧ w'.cell? ⟨bX, 0, none⟩ = some (.int .i64 (-D.num)) ∧ w'.cell? ⟨bX, 1, none⟩ = some (.int .i64 (D.den : Int)))
        (first
        | exact KT.out _
        | exact KS.out _ (by repeat (first | exact Below.refl _ _ | exact Kin.below _ | refine Below.drew ?_)))
        (first
        | (go_at_call 20; (with_reducible refine (radd_is D.num D.den (-D.num) (D.den : Int) un ud ue _ HADD (by omega) (by omega) (by omega) (by omega)).mono ?_); rintro e w' ⟨rfl, hb2⟩; obtain ⟨z2, rfl⟩ := Kin.more (W := W3) (by repeat (first | exact Below.refl _ _ | exact Kin.below _ | refine Below.drew ?_)) hb2; clear hb2))
      trace_state
      go_wp2_with fail
      have N4 := Lib.hid ((N3.out.below z2.below).set (k := d) (by rw [HQL.out]; omega) un ud)
      have BX4 := Lib.hid (((BX3.out.keep z2.below).oth1 (b' := B) (by omega) (d * 2) (.int .i64 un)).oth1 (b' := B) (by omega) (d * 2 + 1) (.int .i64 ud))
      generalize ((z2.w.setCell ⟨B, d * 2, none⟩ (.int .i64 un)).setCell ⟨B, d * 2 + 1, none⟩ (.int .i64 ud)) = W4 at *
      clear kb kr0 kr1 kr2 kr3 kX0 kX1 hltB r0 r1 r2 r3 KS KT N3 BX3
      obtain ⟨r0, r1, r2, r3⟩ := Own2.get N4.out.row (by rw [List.getElem?_set_ne hne]; exact HQC.out)
      have kb := fun x : Kin W4 => x.cell N4.out.box
      have kr0 := fun x : Kin W4 => x.cell r0
      have kr1 := fun x : Kin W4 => x.cell r1
      have hltB : B < W4.heap.size := Nat.lt_trans N4.out.lL N4.out.lt
      have kr2 := fun x : Kin W4 => (x.below.frozen (p := ⟨B, c' * 2, none⟩) hltB).trans r2
      have kr3 := fun x : Kin W4 => (x.below.frozen (p := ⟨B, c' * 2 + 1, none⟩) hltB).trans r3
      have kX0 := fun x : Kin W4 => x.cell BX4.out.c0
      have kX1 := fun x : Kin W4 => x.cell BX4.out.c1
      have KS := Lib.hid (fun w' (hb : Below W4.heap.size W4 w') => (⟨kb ⟨w', hb⟩, kX0 ⟨w', hb⟩, kX1 ⟨w', hb⟩⟩ : w'.cell? ⟨w1.heap.size, 0, none⟩ = some (.slice (some ⟨B, 0, none⟩) n n) ∧ w'.cell? ⟨bX, 0, none⟩ = some (.int .i64 (-D.num)) ∧ w'.cell? ⟨bX, 1, none⟩ = some (.int .i64 (D.den : Int))))
      have KT := Lib.hid (fun (x : Kin W4) => (⟨((N4.out.below x.below).set (k := c') (by rw [List.length_set, HQL.out]; omega) vn vd).box, (((BX4.out.keep x.below).oth1 (b' := B) (by omega) (c' * 2) (.int .i64 vn)).oth1 (b' := B) (by omega) (c' * 2 + 1) (.int .i64 vd)).c0, (((BX4.out.keep x.below).oth1 (b' := B) (by omega) (c' * 2) (.int .i64 vn)).oth1 (b' := B) (by omega) (c' * 2 + 1) (.int .i64 vd)).c1⟩ :
        ((x.w.setCell ⟨B, c' * 2, none⟩ (.int .i64 vn)).setCell ⟨B, c' * 2 + 1, none⟩ (.int .i64 vd)).cell? ⟨w1.heap.size, 0, none⟩ = some (.slice (some ⟨B, 0, none⟩) n n) ∧ ((x.w.setCell ⟨B, c' * 2, none⟩ (.int .i64 vn)).setCell ⟨B, c' * 2 + 1, none⟩ (.int .i64 vd)).cell? ⟨bX, 0, none⟩ = some (.int .i64 (-D.num)) ∧ ((x.w.setCell ⟨B, c' * 2, none⟩ (.int .i64 vn)).setCell ⟨B, c' * 2 + 1, none⟩ (.int .i64 vd)).cell? ⟨bX, 1, none⟩ = some (.int .i64 (D.den : Int))))
      go_region_held3 (fun w' => w'.cell? ⟨w1.heap.size, 0, none⟩ = some (.slice (some ⟨B, 0, none⟩) n n) ∧ w'.cell? ⟨bX, 0, none⟩ = some (.int .i64 (-D.num)) ∧ w'.cell? ⟨bX, 1, none⟩ = some (.int .i64 (D.den : Int)))
        (first
        | exact KT.out _
        | exact KS.out _ (by repeat (first | exact Below.refl _ _ | exact Kin.below _ | refine Below.drew ?_)))
        (first
        | (go_at_call 36; (with_reducible refine (rsub_is C.num C.den (-D.num) (D.den : Int) vn vd ve _ HSUB (by omega) (by omega) (by omega) (by omega)).mono ?_); rintro e w' ⟨rfl, hb2⟩; obtain ⟨z2, rfl⟩ := Kin.more (W := W4) (by repeat (first | exact Below.refl _ _ | exact Kin.below _ | refine Below.drew ?_)) hb2; clear hb2))
      trace_state
      have N5 := Lib.hid ((N4.out.below z2.below).set (k := c') (by rw [List.length_set, HQL.out]; omega) vn vd)
      clear N4 BX4
      by_cases hfu : Rt.fits (D + (-D)) = true
      · by_cases hfv : Rt.fits (C - (-D)) = true
        · have eu : (un, ud, ue) = ((D + (-D)).num, ((D + (-D)).den : Int), (0 : Int)) := by rw [← HADD.out, HFU.out]; unfold Rt.fit; rw [if_pos hfu]
          have ev : (vn, vd, ve) = ((C - (-D)).num, ((C - (-D)).den : Int), (0 : Int)) := by rw [← HSUB.out, HFV.out]; unfold Rt.fit; rw [if_pos hfv]
          simp only [Prod.mk.injEq] at eu ev
          obtain ⟨rfl, rfl, rfl⟩ := eu
          obtain ⟨rfl, rfl, rfl⟩ := ev
          have HGOES := Lib.hid (HGO.out.2 ⟨hfu, hfv⟩)
          clear hfu hfv HADD HSUB HFU HFV HGO
          obtain ⟨i0, z0, hi0, hz0, hs0, hb0, hzc0⟩ := info_debt
          go_wp2_with (at_builtin; refine Hid.out ?_)
          refine Lib.hid ?_
          refine wpList_append_own _ rfl (.tmp 89) (.tmp 94) 22 rfl (w1.heap.size + 1) 38 i0 z0 4 32 rfl hi0 hz0 hs0 hb0 hzc0 (by decide) _ out.length (out.flatMap dcells) rfl (N5.out.own.alloc _) ⟨_, 0, none⟩ 1 1 [.int .i64 (d : Int), .int .i64 (c' : Int), .int .i64 (-D.num), .int .i64 (D.den : Int)] rfl rfl (fun j u hj => by rw [Addr.add_lit, Nat.zero_add]; exact cell_newb _ #[.int .i64 (d : Int), .int .i64 (c' : Int), .int .i64 (-D.num), .int .i64 (D.den : Int)] _ _ j u (by simp) (by simpa using hj)) (by simp [Value.oneCell']) (by simp only [maxLen]; omega) (by omega) (by have := N5.out.lt; simp at this ⊢; omega) ?_
          intro v' w6 hown hgrow _
          go_wp2
          go_roundg (Nt.nz (Nt.next ps) + 1)
          case measure => have := HLESS.out; omega
          case rel =>
            have hs := HG2.out _ rfl
            refine ⟨f - 1, Nt.next ps, out ++ [Nt.pay ps], Nat.le_refl _, by have := HLESS.out; omega, by simp; omega, HNG.out HGOES.out, ?_, ?_⟩
            · show Nt.settle (n + 1) ps0 = (Nt.settle (f - 1) (Nt.next ps)).map ((out ++ [Nt.pay ps]) ++ ·)
              rw [I.out, hs.2.1 HGOES.out]; cases Nt.settle (f - 1) (Nt.next ps) <;> simp
            · rw [HNX.out, HPAY.out]
              exact (N5.out.below (below_alloc (Below.refl _ _) _)).app hown hgrow
        · have ev : (vn, vd, ve) = ((0 : Int), (0 : Int), (2 : Int)) := by rw [← HSUB.out, HFV.out]; unfold Rt.fit; rw [if_neg hfv]
          have eu : (un, ud, ue) = ((D + (-D)).num, ((D + (-D)).den : Int), (0 : Int)) := by rw [← HADD.out, HFU.out]; unfold Rt.fit; rw [if_pos hfu]
          simp only [Prod.mk.injEq] at eu ev
          obtain ⟨rfl, rfl, rfl⟩ := eu
          obtain ⟨rfl, rfl, rfl⟩ := ev
          have HNO : Hid (Nt.netO l n = none) := Lib.hid (by rw [HP.out, I.out, (HG2.out _ rfl).2.2 (fun h => hfv (HGO.out.1 h).2)]; rfl)
          clear hfu hfv HADD HSUB HFU HFV HGO
          go_wp2
          exact bodyPost_ret (v := .tuple #[.slice none 0 0, .int .i64 2]) (by simp [results, Try.results14, go_sem]) rfl ⟨.inl ⟨HNO.out, rfl⟩, N5.out.bel⟩
      · have eu : (un, ud, ue) = ((0 : Int), (0 : Int), (2 : Int)) := by rw [← HADD.out, HFU.out]; unfold Rt.fit; rw [if_neg hfu]
        simp only [Prod.mk.injEq] at eu
        obtain ⟨rfl, rfl, rfl⟩ := eu
        have HNO : Hid (Nt.netO l n = none) := Lib.hid (by rw [HP.out, I.out, (HG2.out _ rfl).2.2 (fun h => hfu (HGO.out.1 h).1)]; rfl)
        clear hfu HADD HSUB HFU HFV HGO
        go_wp2
        exact bodyPost_ret (v := .tuple #[.slice none 0 0, .int .i64 2]) (by simp [results, Try.results14, go_sem]) rfl ⟨.inl ⟨HNO.out, rfl⟩, N5.out.bel⟩

    · have hcmp : Nt.cmpR (-D) C = 0 ∨ Nt.cmpR (-D) C = 1 := by
        unfold Nt.cmpR; rw [if_neg hx]; split
        · exact .inr rfl
        · exact .inl rfl
      have hXe : X = C := by rw [HX.out, if_neg hx]
      obtain ⟨q, hq⟩ : ∃ q, Nt.cmpR (-D) C = q := ⟨_, rfl⟩
      rw [hq] at HCM hcmp
      have hq0 : 0 ≤ q := by omega
      have HCM := Lib.hid HCM
      clear hcmp hx HX hq
      subst hXe
      refine HCM.out.mono ?_
      rintro e w3 ⟨rfl, hb6⟩
      obtain ⟨z, rfl⟩ := Kin.start hb6
      clear hb6 HCM
      go_wp2_with fail
      have N3 := Lib.hid (N2.out.below z.below)
      have BX3 := Lib.hid (HBX.out.keep z.below)
      generalize z.w = W3 at *
      clear kx0 kx1 kx2 kx3 ky0 ky1 N2 HBX
      have hBbX : B < bX := Nat.lt_trans N3.out.lL hbX
      have HFU : Hid (Rt.add D.num D.den X.num (X.den : Int) = Rt.fit (D + X)) := Lib.hid (Nt.add_rat HFD.out HFX.out)
      have HFV : Hid (Rt.add X.num X.den (-X.num) (X.den : Int) = Rt.fit (X - X)) := Lib.hid (Nt.sub_rat HFC.out HFX.out)
      obtain ⟨un, ud, ue, hadd⟩ : ∃ a b e, Rt.add D.num D.den X.num (X.den : Int) = (a, b, e) := ⟨_, _, _, rfl⟩
      obtain ⟨vn, vd, ve, hsub⟩ : ∃ a b e, Rt.add X.num X.den (-X.num) (X.den : Int) = (a, b, e) := ⟨_, _, _, rfl⟩
      have HADD := Lib.hid hadd
      have HSUB := Lib.hid hsub
      clear hadd hsub
      obtain ⟨r0, r1, r2, r3⟩ := Own2.get N3.out.row HQD.out
      have kb := fun x : Kin W3 => x.cell N3.out.box
      have kr0 := fun x : Kin W3 => x.cell r0
      have kr1 := fun x : Kin W3 => x.cell r1
      have hltB : B < W3.heap.size := Nat.lt_trans N3.out.lL N3.out.lt
      have kr2 := fun x : Kin W3 => (x.below.frozen (p := ⟨B, d * 2, none⟩) hltB).trans r2
      have kr3 := fun x : Kin W3 => (x.below.frozen (p := ⟨B, d * 2 + 1, none⟩) hltB).trans r3
      have kX0 := fun x : Kin W3 => x.cell BX3.out.c0
      have kX1 := fun x : Kin W3 => x.cell BX3.out.c1
      have KS := Lib.hid (fun w' (hb : Below W3.heap.size W3 w') => (⟨kb ⟨w', hb⟩, kX0 ⟨w', hb⟩, kX1 ⟨w', hb⟩⟩ : w'.cell? ⟨w1.heap.size, 0, none⟩ = some (.slice (some ⟨B, 0, none⟩) n n) ∧ w'.cell? ⟨bX, 0, none⟩ = some (.int .i64 X.num) ∧ w'.cell? ⟨bX, 1, none⟩ = some (.int .i64 (X.den : Int))))
      have KT := Lib.hid (fun (x : Kin W3) => (⟨((N3.out.below x.below).set (k := d) (by rw [HQL.out]; omega) un ud).box, (((BX3.out.keep x.below).oth1 (b' := B) (by omega) (d * 2) (.int .i64 un)).oth1 (b' := B) (by omega) (d * 2 + 1) (.int .i64 ud)).c0, (((BX3.out.keep x.below).oth1 (b' := B) (by omega) (d * 2) (.int .i64 un)).oth1 (b' := B) (by omega) (d * 2 + 1) (.int .i64 ud)).c1⟩ :
        ((x.w.setCell ⟨B, d * 2, none⟩ (.int .i64 un)).setCell ⟨B, d * 2 + 1, none⟩ (.int .i64 ud)).cell? ⟨w1.heap.size, 0, none⟩ = some (.slice (some ⟨B, 0, none⟩) n n) ∧ ((x.w.setCell ⟨B, d * 2, none⟩ (.int .i64 un)).setCell ⟨B, d * 2 + 1, none⟩ (.int .i64 ud)).cell? ⟨bX, 0, none⟩ = some (.int .i64 X.num) ∧ ((x.w.setCell ⟨B, d * 2, none⟩ (.int .i64 un)).setCell ⟨B, d * 2 + 1, none⟩ (.int .i64 ud)).cell? ⟨bX, 1, none⟩ = some (.int .i64 (X.den : Int))))
      go_region_held3 (fun w' => w'.cell? ⟨w1.heap.size, 0, none⟩ = some (.slice (some ⟨B, 0, none⟩) n n) ∧ w'.cell? ⟨bX, 0, none⟩ = some (.int .i64 X.num) ∧ w'.cell? ⟨bX, 1, none⟩ = some (.int .i64 (X.den : Int)))
        (first
        | exact KT.out _
        | exact KS.out _ (by repeat (first | exact Below.refl _ _ | exact Kin.below _ | refine Below.drew ?_)))
        (first
        | (go_at_call 20; (with_reducible refine (radd_is D.num D.den X.num (X.den : Int) un ud ue _ HADD (by omega) (by omega) (by omega) (by omega)).mono ?_); rintro e w' ⟨rfl, hb2⟩; obtain ⟨z2, rfl⟩ := Kin.more (W := W3) (by repeat (first | exact Below.refl _ _ | exact Kin.below _ | refine Below.drew ?_)) hb2; clear hb2))
      trace_state
      go_wp2_with fail
      have N4 := Lib.hid ((N3.out.below z2.below).set (k := d) (by rw [HQL.out]; omega) un ud)
      have BX4 := Lib.hid (((BX3.out.keep z2.below).oth1 (b' := B) (by omega) (d * 2) (.int .i64 un)).oth1 (b' := B) (by omega) (d * 2 + 1) (.int .i64 ud))
      generalize ((z2.w.setCell ⟨B, d * 2, none⟩ (.int .i64 un)).setCell ⟨B, d * 2 + 1, none⟩ (.int .i64 ud)) = W4 at *
      clear kb kr0 kr1 kr2 kr3 kX0 kX1 hltB r0 r1 r2 r3 KS KT N3 BX3
      obtain ⟨r0, r1, r2, r3⟩ := Own2.get N4.out.row (by rw [List.getElem?_set_ne hne]; exact HQC.out)
      have kb := fun x : Kin W4 => x.cell N4.out.box
      have kr0 := fun x : Kin W4 => x.cell r0
      have kr1 := fun x : Kin W4 => x.cell r1
      have hltB : B < W4.heap.size := Nat.lt_trans N4.out.lL N4.out.lt
      have kr2 := fun x : Kin W4 => (x.below.frozen (p := ⟨B, c' * 2, none⟩) hltB).trans r2
      have kr3 := fun x : Kin W4 => (x.below.frozen (p := ⟨B, c' * 2 + 1, none⟩) hltB).trans r3
      have kX0 := fun x : Kin W4 => x.cell BX4.out.c0
      have kX1 := fun x : Kin W4 => x.cell BX4.out.c1
      have KS := Lib.hid (fun w' (hb : Below W4.heap.size W4 w') => (⟨kb ⟨w', hb⟩, kX0 ⟨w', hb⟩, kX1 ⟨w', hb⟩⟩ : w'.cell? ⟨w1.heap.size, 0, none⟩ = some (.slice (some ⟨B, 0, none⟩) n n) ∧ w'.cell? ⟨bX, 0, none⟩ = some (.int .i64 X.num) ∧ w'.cell? ⟨bX, 1, none⟩ = some (.int .i64 (X.den : Int))))
      have KT := Lib.hid (fun (x : Kin W4) => (⟨((N4.out.below x.below).set (k := c') (by rw [List.length_set, HQL.out]; omega) vn vd).box, (((BX4.out.keep x.below).oth1 (b' := B) (by omega) (c' * 2) (.int .i64 vn)).oth1 (b' := B) (by omega) (c' * 2 + 1) (.int .i64 vd)).c0, (((BX4.out.keep x.below).oth1 (b' := B) (by omega) (c' * 2) (.int .i64 vn)).oth1 (b' := B) (by omega) (c' * 2 + 1) (.int .i64 vd)).c1⟩ :
        ((x.w.setCell ⟨B, c' * 2, none⟩ (.int .i64 vn)).setCell ⟨B, c' * 2 + 1, none⟩ (.int .i64 vd)).cell? ⟨w1.heap.size, 0, none⟩ = some (.slice (some ⟨B, 0, none⟩) n n) ∧ ((x.w.setCell ⟨B, c' * 2, none⟩ (.int .i64 vn)).setCell ⟨B, c' * 2 + 1, none⟩ (.int .i64 vd)).cell? ⟨bX, 0, none⟩ = some (.int .i64 X.num) ∧ ((x.w.setCell ⟨B, c' * 2, none⟩ (.int .i64 vn)).setCell ⟨B, c' * 2 + 1, none⟩ (.int .i64 vd)).cell? ⟨bX, 1, none⟩ = some (.int .i64 (X.den : Int))))
      go_region_held3 (fun w' => w'.cell? ⟨w1.heap.size, 0, none⟩ = some (.slice (some ⟨B, 0, none⟩) n n) ∧ w'.cell? ⟨bX, 0, none⟩ = some (.int .i64 X.num) ∧ w'.cell? ⟨bX, 1, none⟩ = some (.int .i64 (X.den : Int)))
        (first
        | exact KT.out _
        | exact KS.out _ (by repeat (first | exact Below.refl _ _ | exact Kin.below _ | refine Below.drew ?_)))
        (first
        | (go_at_call 36; (with_reducible refine (rsub_is X.num X.den X.num (X.den : Int) vn vd ve _ HSUB (by omega) (by omega) (by omega) (by omega)).mono ?_); rintro e w' ⟨rfl, hb2⟩; obtain ⟨z2, rfl⟩ := Kin.more (W := W4) (by repeat (first | exact Below.refl _ _ | exact Kin.below _ | refine Below.drew ?_)) hb2; clear hb2))
      trace_state
      have N5 := Lib.hid ((N4.out.below z2.below).set (k := c') (by rw [List.length_set, HQL.out]; omega) vn vd)
      clear N4 BX4
      by_cases hfu : Rt.fits (D + X) = true
      · by_cases hfv : Rt.fits (X - X) = true
        · have eu : (un, ud, ue) = ((D + X).num, ((D + X).den : Int), (0 : Int)) := by rw [← HADD.out, HFU.out]; unfold Rt.fit; rw [if_pos hfu]
          have ev : (vn, vd, ve) = ((X - X).num, ((X - X).den : Int), (0 : Int)) := by rw [← HSUB.out, HFV.out]; unfold Rt.fit; rw [if_pos hfv]
          simp only [Prod.mk.injEq] at eu ev
          obtain ⟨rfl, rfl, rfl⟩ := eu
          obtain ⟨rfl, rfl, rfl⟩ := ev
          have HGOES := Lib.hid (HGO.out.2 ⟨hfu, hfv⟩)
          clear hfu hfv HADD HSUB HFU HFV HGO
          obtain ⟨i0, z0, hi0, hz0, hs0, hb0, hzc0⟩ := info_debt
          go_wp2_with (at_builtin; refine Hid.out ?_)
          refine Lib.hid ?_
          refine wpList_append_own _ rfl (.tmp 89) (.tmp 94) 22 rfl (w1.heap.size + 1) 38 i0 z0 4 32 rfl hi0 hz0 hs0 hb0 hzc0 (by decide) _ out.length (out.flatMap dcells) rfl (N5.out.own.alloc _) ⟨_, 0, none⟩ 1 1 [.int .i64 (d : Int), .int .i64 (c' : Int), .int .i64 X.num, .int .i64 (X.den : Int)] rfl rfl (fun j u hj => by rw [Addr.add_lit, Nat.zero_add]; exact cell_newb _ #[.int .i64 (d : Int), .int .i64 (c' : Int), .int .i64 X.num, .int .i64 (X.den : Int)] _ _ j u (by simp) (by simpa using hj)) (by simp [Value.oneCell']) (by simp only [maxLen]; omega) (by omega) (by have := N5.out.lt; simp at this ⊢; omega) ?_
          intro v' w6 hown hgrow _
          go_wp2
          go_roundg (Nt.nz (Nt.next ps) + 1)
          case measure => have := HLESS.out; omega
          case rel =>
            have hs := HG2.out _ rfl
            refine ⟨f - 1, Nt.next ps, out ++ [Nt.pay ps], Nat.le_refl _, by have := HLESS.out; omega, by simp; omega, HNG.out HGOES.out, ?_, ?_⟩
            · show Nt.settle (n + 1) ps0 = (Nt.settle (f - 1) (Nt.next ps)).map ((out ++ [Nt.pay ps]) ++ ·)
              rw [I.out, hs.2.1 HGOES.out]; cases Nt.settle (f - 1) (Nt.next ps) <;> simp
            · rw [HNX.out, HPAY.out]
              exact (N5.out.below (below_alloc (Below.refl _ _) _)).app hown hgrow
        · have ev : (vn, vd, ve) = ((0 : Int), (0 : Int), (2 : Int)) := by rw [← HSUB.out, HFV.out]; unfold Rt.fit; rw [if_neg hfv]
          have eu : (un, ud, ue) = ((D + X).num, ((D + X).den : Int), (0 : Int)) := by rw [← HADD.out, HFU.out]; unfold Rt.fit; rw [if_pos hfu]
          simp only [Prod.mk.injEq] at eu ev
          obtain ⟨rfl, rfl, rfl⟩ := eu
          obtain ⟨rfl, rfl, rfl⟩ := ev
          have HNO : Hid (Nt.netO l n = none) := Lib.hid (by rw [HP.out, I.out, (HG2.out _ rfl).2.2 (fun h => hfv (HGO.out.1 h).2)]; rfl)
          clear hfu hfv HADD HSUB HFU HFV HGO
          go_wp2
          exact bodyPost_ret (v := .tuple #[.slice none 0 0, .int .i64 2]) (by simp [results, Try.results14, go_sem]) rfl ⟨.inl ⟨HNO.out, rfl⟩, N5.out.bel⟩
      · have eu : (un, ud, ue) = ((0 : Int), (0 : Int), (2 : Int)) := by rw [← HADD.out, HFU.out]; unfold Rt.fit; rw [if_neg hfu]
        simp only [Prod.mk.injEq] at eu
        obtain ⟨rfl, rfl, rfl⟩ := eu
        have HNO : Hid (Nt.netO l n = none) := Lib.hid (by rw [HP.out, I.out, (HG2.out _ rfl).2.2 (fun h => hfu (HGO.out.1 h).1)]; rfl)
        clear hfu HADD HSUB HFU HFV HGO
        go_wp2
        exact bodyPost_ret (v := .tuple #[.slice none 0 0, .int .i64 2]) (by simp [results, Try.results14, go_sem]) rfl ⟨.inl ⟨HNO.out, rfl⟩, N5.out.bel⟩

end Go.Proofs.Ytgggekjhfdkgkaa
