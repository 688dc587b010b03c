/- The walks of ParityFlips and ParityTells: they return true; no condition but the ranges of the kinds. -/
import Derived.Test.YtjinijaegfolbaaL02a
import Derived.Lib.Hide
namespace Go.Proofs.Ytjinijaegfolbaa.L02
open Go.RowKit Go.Proofs.Ytjinijaegfolbaa.PAll Go.Proofs.YtjinijaegfolbaaW.PrintWords Go.Proofs.YtjinijaegfolbaaW.PrintLast Go.Proofs.YtjinijaegfolbaaW.PrintMore Go.Proofs.Ytjinijaegfolbaa.Plain
set_option linter.unusedVariables false
set_option linter.unusedSimpArgs false
theorem gets_c (x y : Int) (h0 : 0 ≤ x) (h1 : x < 65536) (hy : x % 32768 = y) (b : Bool) (hb : ob16 x = b) (w : World) :
    Calls Try.prog 18 #[.int .u16 x, .int .u16 y, .bool b] w fun e w' => e = .returned (.bool true) ∧ Drawn0 w w' := by
  subst hy; subst hb
  refine perilunelaw02_gets.calls 20 _ _ _ true w ?_
  obtain ⟨n, rfl⟩ := Int.eq_ofNat_of_zero_le h0
  unfold perilunelaw02_gets.f
  rw [get_eq n 20 (by omega) (by decide)]
  simp only [Option.bind_some]
  rw [if_pos (show ((n % 32768 : Nat) : Int) = (n : Int) % 32768 by omega)]
  unfold ob16
  rw [Int.toNat_natCast]; simp
set_option maxHeartbeats 1000000 in
theorem flips_calls (a : Int) (h0 : 0 ≤ a) (h1 : a < 65536) (A : Option Addr) (c : Nat) (l : List Int) (w : World) (hr : Kd.C (Kd.int .u8) w A l.length l) (hc : l.length ≤ c) (hb : ∀ x ∈ l, (Lit.int .u8 x).wf = true) :
    Calls Try.prog 4 #[.int .u16 a, .slice A l.length c] w fun e w' => e = .returned (.bool true) ∧ Below w.heap.size w w' := by
  have HB := Aside0.mk (Below.refl w.heap.size w)
  obtain ⟨j, hj⟩ : ∃ j : Int, (if 40 < (l.length : Int) then 40 else (l.length : Int)) = j := ⟨_, rfl⟩
  have j0 : 0 ≤ j := by rw [← hj]; split <;> omega
  have j1 : j ≤ l.length := by rw [← hj]; split <;> omega
  have j2 : j ≤ 40 := by rw [← hj]; split <;> omega
  obtain ⟨i0, hi0, _, hsz0, _⟩ := info_parts info5
  obtain ⟨hcut, hA, hC⟩ := print_take_of (P := Try.prog) (Value.int .u8) 0 36 5 .i64 Try.underlying36 hi0 hsz0 A c l j j0 j1 hc
  have hbm : ∀ x ∈ l.take j.toNat, (Lit.int .u8 x).wf = true := fun x hx => hb x (List.mem_of_mem_take hx)
  have hlm : (l.take j.toNat).length ≤ 40 := by rw [List.length_take]; omega
  have HR := Aside0.mk (Kd.C_of_reads (h1 := fun _ => rfl) (hA w (Kd.reads_of_C hr)))
  have HC := Aside0.mk hC
  clear hA hC hr hi0 hsz0 hb hc
  obtain ⟨m, hm⟩ : ∃ m, l.take j.toNat = m := ⟨_, rfl⟩
  rw [hm] at hcut hbm hlm HR HC
  replace hbm := Lib.hid hbm
  clear hm
  have j3 := eq_true j0
  have j4 := eq_true j1
  have P1 := Lib.hid (Put_c a h0 h1)
  have G1 := Lib.hid (gets_c (putI a) (a % 32768) (put_range a).1 (put_range a).2 (put_mod a h0) true (put_odd a))
  have t1 : Int.tmod a 32768 = a % 32768 := Int.tmod_eq_emod_of_nonneg h0
  go_enter Try.func4, Try.ntmps4
  go_wp2_with (first | (go_at_call 15; (with_reducible refine (P1.out _).mono ?_); rintro e w' ⟨rfl, ⟨nd, rfl⟩⟩) | (go_at_call 18; (with_reducible refine (G1.out _).mono ?_); rintro e w' ⟨rfl, ⟨nd, rfl⟩⟩))
  have p0 := (put_range a).1
  have p1 := (put_range a).2
  have p2 := Lib.hid (put_odd a)
  clear t1 P1 G1
  go_loopg [5, 6] m.length (fun g v5 v6 w' => ∃ (s i : Int), v5 = .int .u16 s ∧ v6 = .int .i64 i ∧ 0 ≤ i ∧ Aside0 (i + g = m.length) ∧ 0 ≤ s ∧ s < 65536 ∧ Aside0 (ob16 s = decide (i % 2 = 0)) ∧ Aside0 (Below w.heap.size w w'))
  case atStart => exact ⟨putI a, 0, rfl, rfl, by decide, ⟨by omega⟩, p0, p1, ⟨p2.out⟩, ⟨by repeat (first | (with_reducible first | exact HB.out | apply below_alloc | apply pw_below_drewN | apply below_drew1) | exact HB.out)⟩⟩
  case round =>
    clear HB p0 p1 p2 hj j0 j1 j2 j3 j4 hcut h0 h1
    obtain ⟨s, i, rfl, rfl, hi, hg, s0, s1, ho, HB⟩ := hrel
    have hg' := hg.out
    by_cases hlt : i < (m.length : Int)
    · obtain ⟨g, rfl⟩ : ∃ g, gk = g + 1 := ⟨gk - 1, by omega⟩
      have i40 : i < 40 := by omega
      have b0 : decide (i < (m.length : Int)) = true := decide_eq_true hlt
      obtain ⟨ad, eA, hx⟩ := Kd.at_int HR.out i hi hlt
      cases eA
      replace hx := (HB.out.cell (World.block_lt_of_cell? w _ hx)).trans hx
      obtain ⟨y, hy, hy0, hy1⟩ : ∃ y : Int, rd m i = y ∧ 0 ≤ y ∧ y < 256 := by
        have hk : i.toNat < m.length := by omega
        obtain ⟨n, hn, hn2⟩ := wf8 (hbm.out _ (List.getElem_mem hk))
        refine ⟨n, ?_, by omega, by omega⟩
        unfold rd; rw [List.getD_eq_getElem?_getD, List.getElem?_eq_getElem hk, ← hn]; rfl
      rw [hy] at hx
      have t2 : Int.tmod y 16 = y % 16 := Int.tmod_eq_emod_of_nonneg hy0
      have z0 : 0 ≤ y % 16 := by omega
      have z1 : y % 16 ≤ 15 := by omega
      have F1 := Flip_c s (y % 16) s0 s1
      have t0 := (fl_range s (y % 16) s0 s1).1
      have t1 := (fl_range s (y % 16) s0 s1).2
      have F2 := Flip_c (flI s (y % 16)) (y % 16) t0 t1
      have G := Get_c (flI s (y % 16)) t0 t1
      rw [fl_back s (y % 16) s0 z0 z1, fe_ok _ z0 z1] at F2
      rw [fe_ok _ z0 z1] at F1
      have hne := fl_ne s (y % 16) s0 z0 z1
      have hof := ob16_flip s (y % 16) s0 s1 z0 z1
      obtain ⟨t, ht⟩ : ∃ t, flI s (y % 16) = t := ⟨_, rfl⟩
      rw [ht] at F1 F2 G hne t0 t1 hof
      clear hy ht
      have b1 : (t == s) = false := beq_eq_false_iff_ne.mpr hne
      rw [ho.out] at hof
      clear ho hne hg'
      have t3 : Int.tmod i 2 = i % 2 := Int.tmod_eq_emod_of_nonneg hi
      by_cases c : i % 2 = 1
      · have c1 : (i % 2 == 1) = true := beq_iff_eq.mpr c
        have hof2 : ob16 t = true := by rw [hof, decide_eq_false (by omega)]; rfl
        have hon := Lib.hid (show ob16 t = decide ((i + 1) % 2 = 0) by rw [hof2, decide_eq_true (by omega)])
        rw [hof2] at G
        clear hof hof2 c
        replace F1 := Lib.hid F1
        replace F2 := Lib.hid F2
        replace G := Lib.hid G
        go_wp2_with (first | (go_at_call 9; first | ((with_reducible refine (F1.out _).mono ?_); rintro e w' ⟨rfl, ⟨nd, rfl⟩⟩) | ((with_reducible refine (F2.out _).mono ?_); rintro e w' ⟨rfl, ⟨nd, rfl⟩⟩)) | (go_at_call 11; (with_reducible refine (G.out _).mono ?_); rintro e w' ⟨rfl, ⟨nd, rfl⟩⟩))
        go_roundg g
        case measure => omega
        case rel => exact ⟨t, i + 1, rfl, rfl, by omega, ⟨by have := hg.out; omega⟩, t0, t1, ⟨hon.out⟩, ⟨by repeat (first | (with_reducible first | exact HB.out | apply below_alloc | apply pw_below_drewN | apply below_drew1) | exact HB.out)⟩⟩
      · have c1 : (i % 2 == 1) = false := beq_eq_false_iff_ne.mpr c
        have hof2 : ob16 t = false := by rw [hof, decide_eq_true (by omega)]; rfl
        have hon := Lib.hid (show ob16 t = decide ((i + 1) % 2 = 0) by rw [hof2, decide_eq_false (by omega)])
        rw [hof2] at G
        clear hof hof2 c
        replace F1 := Lib.hid F1
        replace F2 := Lib.hid F2
        replace G := Lib.hid G
        go_wp2_with (first | (go_at_call 9; first | ((with_reducible refine (F1.out _).mono ?_); rintro e w' ⟨rfl, ⟨nd, rfl⟩⟩) | ((with_reducible refine (F2.out _).mono ?_); rintro e w' ⟨rfl, ⟨nd, rfl⟩⟩)) | (go_at_call 11; (with_reducible refine (G.out _).mono ?_); rintro e w' ⟨rfl, ⟨nd, rfl⟩⟩))
        go_roundg g
        case measure => omega
        case rel => exact ⟨t, i + 1, rfl, rfl, by omega, ⟨by have := hg.out; omega⟩, t0, t1, ⟨hon.out⟩, ⟨by repeat (first | (with_reducible first | exact HB.out | apply below_alloc | apply pw_below_drewN | apply below_drew1) | exact HB.out)⟩⟩
    · have b0 : decide (i < (m.length : Int)) = false := decide_eq_false hlt
      clear hg'
      go_wp2_with ((go_at_call 17; (with_reducible refine (works_c _).mono ?_); rintro e w' ⟨rfl, ⟨nd, rfl⟩⟩))
      go_ret
      exact ⟨rfl, by repeat (first | (with_reducible first | exact HB.out | apply below_alloc | apply pw_below_drewN | apply below_drew1) | exact HB.out)⟩
theorem flips_walk (a0 : Int) (a1 : Option Addr) (len1 cap1 : Nat) (z1 : List Int) (w : World) (w0 : (Lit.int .u16 a0).wf = true) (w1 : (a1 = none ∧ len1 = 0 ∧ cap1 = 0 ∧ z1 = []) ∨ ∃ x, a1 = some x ∧ len1 ≤ cap1 ∧ cap1 ≤ maxLen ∧ z1.length = cap1 ∧ (∀ i, i < z1.length → w.cell? (x.add i) = some (.int .u8 (z1.getD i 0))) ∧ ∀ n ∈ z1, (Lit.int .u8 n).wf = true) (y1 : len1 * 1 ≤ 140737488351232) :
    Calls Try.prog 4 #[.int .u16 a0, .slice a1 len1 cap1] w fun e w' => e = .returned (.bool true) ∧ Below w.heap.size w w' := by
  obtain ⟨l1, rfl, hr1, hm1, hw1, hc1⟩ := ReadsInt.ofRowC w1
  obtain ⟨n, rfl, hn⟩ := wf16 w0
  exact flips_calls _ (by omega) (by omega) _ _ l1 w (Kd.C_of_reads (d := (0 : Int)) (h1 := fun _ => rfl) hr1) hc1 hw1

set_option maxHeartbeats 1000000 in
theorem tells_calls (x y j : Int) (x0 : 0 ≤ x) (x1 : x < 65536) (y0 : 0 ≤ y) (y1 : y < 65536) (w : World) :
    Calls Try.prog 3 #[.int .u16 x, .int .u16 y, .int .i64 j] w fun e w' => e = .returned (.bool true) ∧ Drawn0 w w' := by
  have hi0 : ∀ (a b : Int) (W : World), (Instr.index 26 (.agg #[.int .i64 a, .int .i64 b]) (.int .i64 0)).run Try.prog W = .ok (.int .i64 a) W := fun _ _ _ => by kernel_rfl
  have hi1 : ∀ (a b : Int) (W : World), (Instr.index 26 (.agg #[.int .i64 a, .int .i64 b]) (.int .i64 1)).run Try.prog W = .ok (.int .i64 b) W := fun _ _ _ => by kernel_rfl
  have G1 := Lib.hid (Get_c y y0 y1)
  have G2 := Lib.hid (refGet_c y y0 y1)
  have O1 := Lib.hid (Odd_c x x0 x1)
  have O2 := Lib.hid (refOdd_c x x0 x1)
  have P1 := Lib.hid (Put_c x x0 x1)
  have P2 := Lib.hid (refPut_c x x0 x1)
  have HD := Aside0.mk (Drawn0.refl w)
  go_enter Try.func3, Try.ntmps3
  go_wp2
  go_loopg [24] 2 (fun g v24 w' => ∃ i : Int, v24 = .int .i64 i ∧ Aside0 (0 ≤ i ∧ i + g = 2) ∧ Aside0 (Drawn0 w w'))
  case atStart => exact ⟨0, rfl, ⟨by decide, rfl⟩, ⟨by repeat (first | exact HD.out | exact Drawn0.refl _ | apply Drawn0.step)⟩⟩
  case round =>
    clear HD
    obtain ⟨i, rfl, hg, HD⟩ := hrel
    match gk, hg with
    | 0, hg =>
      obtain rfl : i = 2 := by have := hg.out; omega
      clear hg
      go_wp2_with (first | (go_at_call 11; (with_reducible refine (G1.out _).mono ?_); rintro e w' ⟨rfl, ⟨nd, rfl⟩⟩) | (go_at_call 12; (with_reducible refine (G2.out _).mono ?_); rintro e w' ⟨rfl, ⟨nd, rfl⟩⟩) | (go_at_call 13; (with_reducible refine (O1.out _).mono ?_); rintro e w' ⟨rfl, ⟨nd, rfl⟩⟩) | (go_at_call 14; (with_reducible refine (O2.out _).mono ?_); rintro e w' ⟨rfl, ⟨nd, rfl⟩⟩) | (go_at_call 15; (with_reducible refine (P1.out _).mono ?_); rintro e w' ⟨rfl, ⟨nd, rfl⟩⟩) | (go_at_call 16; (with_reducible refine (P2.out _).mono ?_); rintro e w' ⟨rfl, ⟨nd, rfl⟩⟩) | (go_at_call 17; (with_reducible refine (works_c _).mono ?_); rintro e w' ⟨rfl, ⟨nd, rfl⟩⟩))
      go_ret
      exact ⟨rfl, by repeat (first | exact HD.out | exact Drawn0.refl _ | apply Drawn0.step)⟩
    | 1, hg =>
      obtain rfl : i = 1 := by have := hg.out; omega
      clear hg
      go_wp2_with (first | (go_at_call 9; (with_reducible refine (Flip_c y _ y0 y1 _).mono ?_); rintro e w' ⟨rfl, ⟨nd, rfl⟩⟩) | (go_at_call 10; (with_reducible refine (refFlip_c y _ y0 y1 _).mono ?_); rintro e w' ⟨rfl, ⟨nd, rfl⟩⟩))
      go_roundg 0
      case measure => omega
      case rel => exact ⟨2, rfl, ⟨by decide, rfl⟩, ⟨by repeat (first | exact HD.out | exact Drawn0.refl _ | apply Drawn0.step)⟩⟩
    | 2, hg =>
      obtain rfl : i = 0 := by have := hg.out; omega
      clear hg
      go_wp2_with (first | (go_at_call 9; (with_reducible refine (Flip_c y _ y0 y1 _).mono ?_); rintro e w' ⟨rfl, ⟨nd, rfl⟩⟩) | (go_at_call 10; (with_reducible refine (refFlip_c y _ y0 y1 _).mono ?_); rintro e w' ⟨rfl, ⟨nd, rfl⟩⟩))
      go_roundg 1
      case measure => omega
      case rel => exact ⟨1, rfl, ⟨by decide, rfl⟩, ⟨by repeat (first | exact HD.out | exact Drawn0.refl _ | apply Drawn0.step)⟩⟩
    | g + 3, hg => exact absurd hg.out (by omega)
theorem tells_walk (a0 a1 a2 : Int) (w : World) (w0 : (Lit.int .u16 a0).wf = true) (w1 : (Lit.int .u16 a1).wf = true) (w2 : (Lit.int .i64 a2).wf = true) :
    Calls Try.prog 3 #[.int .u16 a0, .int .u16 a1, .int .i64 a2] w fun e w' => e = .returned (.bool true) ∧ Below w.heap.size w w' := by
  obtain ⟨n, rfl, hn⟩ := wf16 w0
  obtain ⟨m, rfl, hm⟩ := wf16 w1
  exact (tells_calls _ _ _ (by omega) (by omega) (by omega) (by omega) w).mono fun e w' ⟨he, hd⟩ => ⟨he, hd.below⟩
end Go.Proofs.Ytjinijaegfolbaa.L02
