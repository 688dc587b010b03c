/- The walks of Known of chapter 1: each returns true; no condition but the ranges of the kinds. -/
import Derived.Test.YtipcnefiadnlmaaLaw01a
namespace Go.Proofs.Ytipcnefiadnlmaa.L01
open Go.RowKit Go.Proofs.Ytipcnefiadnlmaa.PAll Go.Proofs.Ytipcnefiadnlmaa.One Go.Proofs.YtipcnefiadnlmaaW.PrintWords Go.Proofs.YtipcnefiadnlmaaW.PrintLast Go.Proofs.YtipcnefiadnlmaaW.PrintMore Go.Proofs.Ytipcnefiadnlmaa.Plain
set_option linter.unusedVariables false
set_option linter.unusedSimpArgs false

set_option maxHeartbeats 4000000 in
theorem known_law (w : World) :
    Calls Try.prog 10 #[] w fun e w' => e = .returned (.bool true) ∧ Below w.heap.size w w' := by
  have HB := Aside0.mk (Below.refl w.heap.size w)
  have K1 := value_c 5 (by decide) (by decide)
  rw [show valI 5 = 5 from rfl] at K1
  replace K1 := Lib.hid K1
  have K2 := value_c 16383 (by decide) (by decide)
  rw [show valI 16383 = 16383 from rfl] at K2
  replace K2 := Lib.hid K2
  have K3 := value_c 16384 (by decide) (by decide)
  rw [show valI 16384 = -16383 from rfl] at K3
  replace K3 := Lib.hid K3
  have K4 := value_c 32766 (by decide) (by decide)
  rw [show valI 32766 = -1 from rfl] at K4
  replace K4 := Lib.hid K4
  have K5 := value_c 32767 (by decide) (by decide)
  rw [show valI 32767 = 0 from rfl] at K5
  replace K5 := Lib.hid K5
  have K6 := value_c 32768 (by decide) (by decide)
  rw [show valI 32768 = 0 from rfl] at K6
  replace K6 := Lib.hid K6
  have K7 := value_c 65535 (by decide) (by decide)
  rw [show valI 65535 = 0 from rfl] at K7
  replace K7 := Lib.hid K7
  have K8 := of_c 0
  rw [show ofI 0 = 0 from rfl] at K8
  rw [show ofE 0 = 0 from rfl] at K8
  replace K8 := Lib.hid K8
  have K9 := of_c (-16383)
  rw [show ofI (-16383) = 16384 from rfl] at K9
  rw [show ofE (-16383) = 0 from rfl] at K9
  replace K9 := Lib.hid K9
  have K10 := of_c (-16384)
  rw [show ofI (-16384) = 0 from rfl] at K10
  rw [show ofE (-16384) = 3 from rfl] at K10
  replace K10 := Lib.hid K10
  have K11 := ext_c 32766 (by decide) (by decide)
  rw [show extI 32766 = 65534 from rfl] at K11
  replace K11 := Lib.hid K11
  have K12 := addAcc_c 65534 2 (by decide) (by decide) (by decide) (by decide)
  rw [show addAccI 65534 2 = 1 from rfl] at K12
  replace K12 := Lib.hid K12
  have K13 := addAcc_c 16383 1 (by decide) (by decide) (by decide) (by decide)
  rw [show addAccI 16383 1 = 16384 from rfl] at K13
  replace K13 := Lib.hid K13
  have K14 := addAcc_c 65535 65535 (by decide) (by decide) (by decide) (by decide)
  rw [show addAccI 65535 65535 = 65535 from rfl] at K14
  replace K14 := Lib.hid K14
  have K15 := negAcc_c 0 (by decide) (by decide)
  rw [show negAccI 0 = 65535 from rfl] at K15
  replace K15 := Lib.hid K15
  go_enter Try.func10, Try.ntmps10
  go_wp2_with (first | (go_at_call 26; (with_reducible refine at_args #[.int .u16 5] ?_); (with_reducible refine (K1.out _).mono ?_); rintro e w' ⟨rfl, ⟨nd, rfl⟩⟩) | (go_at_call 26; (with_reducible refine at_args #[.int .u16 16383] ?_); (with_reducible refine (K2.out _).mono ?_); rintro e w' ⟨rfl, ⟨nd, rfl⟩⟩) | (go_at_call 26; (with_reducible refine at_args #[.int .u16 16384] ?_); (with_reducible refine (K3.out _).mono ?_); rintro e w' ⟨rfl, ⟨nd, rfl⟩⟩) | (go_at_call 26; (with_reducible refine at_args #[.int .u16 32766] ?_); (with_reducible refine (K4.out _).mono ?_); rintro e w' ⟨rfl, ⟨nd, rfl⟩⟩) | (go_at_call 26; (with_reducible refine at_args #[.int .u16 32767] ?_); (with_reducible refine (K5.out _).mono ?_); rintro e w' ⟨rfl, ⟨nd, rfl⟩⟩) | (go_at_call 26; (with_reducible refine at_args #[.int .u16 32768] ?_); (with_reducible refine (K6.out _).mono ?_); rintro e w' ⟨rfl, ⟨nd, rfl⟩⟩) | (go_at_call 26; (with_reducible refine at_args #[.int .u16 65535] ?_); (with_reducible refine (K7.out _).mono ?_); rintro e w' ⟨rfl, ⟨nd, rfl⟩⟩) | (go_at_call 24; (with_reducible refine at_args #[.int .i64 0] ?_); (with_reducible refine (K8.out _).mono ?_); rintro e w' ⟨rfl, ⟨nd, rfl⟩⟩) | (go_at_call 24; (with_reducible refine at_args #[.int .i64 (-16383)] ?_); (with_reducible refine (K9.out _).mono ?_); rintro e w' ⟨rfl, ⟨nd, rfl⟩⟩) | (go_at_call 24; (with_reducible refine at_args #[.int .i64 (-16384)] ?_); (with_reducible refine (K10.out _).mono ?_); rintro e w' ⟨rfl, ⟨nd, rfl⟩⟩) | (go_at_call 32; (with_reducible refine at_args #[.int .u16 32766] ?_); (with_reducible refine (K11.out _).mono ?_); rintro e w' ⟨rfl, ⟨nd, rfl⟩⟩) | (go_at_call 34; (with_reducible refine at_args #[.int .u16 65534, .int .u16 2] ?_); (with_reducible refine (K12.out _).mono ?_); rintro e w' ⟨rfl, ⟨nd, rfl⟩⟩) | (go_at_call 34; (with_reducible refine at_args #[.int .u16 16383, .int .u16 1] ?_); (with_reducible refine (K13.out _).mono ?_); rintro e w' ⟨rfl, ⟨nd, rfl⟩⟩) | (go_at_call 34; (with_reducible refine at_args #[.int .u16 65535, .int .u16 65535] ?_); (with_reducible refine (K14.out _).mono ?_); rintro e w' ⟨rfl, ⟨nd, rfl⟩⟩) | (go_at_call 36; (with_reducible refine at_args #[.int .u16 0] ?_); (with_reducible refine (K15.out _).mono ?_); rintro e w' ⟨rfl, ⟨nd, rfl⟩⟩) | (go_at_call 46; (with_reducible refine at_args #[.slice _ 7 _, .slice _ 7 _] ?_); refine (ints_c _ _ _ _ [5, 16383, -16383, -1, 0, 0, 0] _ _ rfl rfl _ ?ra ?ca ?rb ?cb (by decide)).mono ?_; (case ra => exact (by repeat (first | (refine lit_Cn _ 3 .i64 [5, 16383, -16383, -1, 0, 0, 0] _ _ ?_ rfl (by decide); (simp; done)) | apply Kd.C_alloc | apply Kd.C_drewN | apply Kd.C_drew))); (case rb => exact (by repeat (first | (refine lit_Cn _ 3 .i64 [5, 16383, -16383, -1, 0, 0, 0] _ _ ?_ rfl (by decide); (simp; done)) | apply Kd.C_alloc | apply Kd.C_drewN | apply Kd.C_drew))); (case ca => decide); (case cb => decide); rintro e w' ⟨rfl, ⟨nd, rfl⟩⟩))
  go_loopg [63] 5 (fun g v63 w' => ∃ i : Int, v63 = .int .i64 i ∧ Aside0 (0 ≤ i ∧ i + g = 5) ∧ Aside0 (Kd.C (Kd.int .u16) w' (some ⟨w.heap.size + 1, 0, none⟩) 5 [65534, 1, 16384, 65535, 65535]) ∧ Aside0 (Below w.heap.size w w'))
  case atStart => exact ⟨0, rfl, ⟨by decide, by decide⟩, ⟨(by repeat (first | (refine lit_Cn _ 34 .u16 [65534, 1, 16384, 65535, 65535] _ _ ?_ rfl (by decide); (simp; done)) | apply Kd.C_alloc | apply Kd.C_drewN | apply Kd.C_drew))⟩, ⟨by repeat (first | (with_reducible first | exact HB.out | apply below_alloc | apply pw_below_drewN | apply below_drew1) | exact HB.out)⟩⟩
  case round =>
    clear HB
    obtain ⟨i, rfl, hg, HC, HB⟩ := hrel
    match gk, hg with
    | 0, hg =>
      obtain rfl : i = 5 := by have := hg.out; omega
      clear hg HC
      have K1 := cor_c 16384 (by decide) (by decide)
      rw [show corI 16384 = 0 from rfl] at K1
      replace K1 := Lib.hid K1
      have K2 := cor_c 49151 (by decide) (by decide)
      rw [show corI 49151 = 32767 from rfl] at K2
      replace K2 := Lib.hid K2
      have K3 := cor_c 65534 (by decide) (by decide)
      rw [show corI 65534 = 32766 from rfl] at K3
      replace K3 := Lib.hid K3
      have E16 := edit_c 16 5 (by decide) (by decide)
      rw [show editI 16 5 = 16386 from rfl] at E16
      replace E16 := Lib.hid E16
      have E17 := edit_c 17 16386 (by decide) (by decide)
      rw [show editI 17 16386 = 24577 from rfl] at E17
      replace E17 := Lib.hid E17
      have E18 := edit_c 18 16385 (by decide) (by decide)
      rw [show editI 18 16385 = 3 from rfl] at E18
      replace E18 := Lib.hid E18
      have E19 := edit_c 19 16256 (by decide) (by decide)
      rw [show editI 19 16256 = 127 from rfl] at E19
      replace E19 := Lib.hid E19
      have E1 := edit_c (-1) 65535 (by decide) (by decide)
      rw [show editI (-1) 65535 = 32767 from rfl] at E1
      replace E1 := Lib.hid E1
      have K4 := td_c 5 3 (by decide) (by decide) (by decide) (by decide)
      rw [show tdI 5 3 = 2 from rfl] at K4
      replace K4 := Lib.hid K4
      have K5 := td_c 0 16384 (by decide) (by decide) (by decide) (by decide)
      rw [show tdI 0 16384 = 16384 from rfl] at K5
      replace K5 := Lib.hid K5
      have K6 := td_c 1 32767 (by decide) (by decide) (by decide) (by decide)
      rw [show tdI 1 32767 = 2 from rfl] at K6
      replace K6 := Lib.hid K6
      have K7 := dim_c 0 (by decide) (by decide)
      rw [show dimI 0 = 0 from rfl] at K7
      replace K7 := Lib.hid K7
      have K8 := dim_c 65535 (by decide) (by decide)
      rw [show dimI 65535 = 0 from rfl] at K8
      replace K8 := Lib.hid K8
      have K9 := dim_c 7 (by decide) (by decide)
      rw [show dimI 7 = 6 from rfl] at K9
      replace K9 := Lib.hid K9
      go_wp2_with (first | (go_at_call 40; (with_reducible refine at_args #[.int .u16 16384] ?_); (with_reducible refine (K1.out _).mono ?_); rintro e w' ⟨rfl, ⟨nd, rfl⟩⟩) | (go_at_call 40; (with_reducible refine at_args #[.int .u16 49151] ?_); (with_reducible refine (K2.out _).mono ?_); rintro e w' ⟨rfl, ⟨nd, rfl⟩⟩) | (go_at_call 40; (with_reducible refine at_args #[.int .u16 65534] ?_); (with_reducible refine (K3.out _).mono ?_); rintro e w' ⟨rfl, ⟨nd, rfl⟩⟩) | (go_at_call 19; (with_reducible refine at_args #[.int .i64 16, _] ?_); (with_reducible refine (E16.out _).mono ?_); rintro e w' ⟨rfl, hb⟩; have HBn := Aside0.mk (below_step (by repeat (first | (with_reducible first | exact HB.out | apply below_alloc | apply pw_below_drewN | apply below_drew1) | exact HB.out)) hb); clear HB hb; have HB := HBn; clear HBn) | (go_at_call 19; (with_reducible refine at_args #[.int .i64 17, _] ?_); (with_reducible refine (E17.out _).mono ?_); rintro e w' ⟨rfl, hb⟩; have HBn := Aside0.mk (below_step (by repeat (first | (with_reducible first | exact HB.out | apply below_alloc | apply pw_below_drewN | apply below_drew1) | exact HB.out)) hb); clear HB hb; have HB := HBn; clear HBn) | (go_at_call 19; (with_reducible refine at_args #[.int .i64 18, _] ?_); (with_reducible refine (E18.out _).mono ?_); rintro e w' ⟨rfl, hb⟩; have HBn := Aside0.mk (below_step (by repeat (first | (with_reducible first | exact HB.out | apply below_alloc | apply pw_below_drewN | apply below_drew1) | exact HB.out)) hb); clear HB hb; have HB := HBn; clear HBn) | (go_at_call 19; (with_reducible refine at_args #[.int .i64 19, _] ?_); (with_reducible refine (E19.out _).mono ?_); rintro e w' ⟨rfl, hb⟩; have HBn := Aside0.mk (below_step (by repeat (first | (with_reducible first | exact HB.out | apply below_alloc | apply pw_below_drewN | apply below_drew1) | exact HB.out)) hb); clear HB hb; have HB := HBn; clear HBn) | (go_at_call 19; (with_reducible refine at_args #[.int .i64 (-1), _] ?_); (with_reducible refine (E1.out _).mono ?_); rintro e w' ⟨rfl, hb⟩; have HBn := Aside0.mk (below_step (by repeat (first | (with_reducible first | exact HB.out | apply below_alloc | apply pw_below_drewN | apply below_drew1) | exact HB.out)) hb); clear HB hb; have HB := HBn; clear HBn) | (go_at_call 21; (with_reducible refine at_args #[.int .u16 5, .int .u16 3] ?_); (with_reducible refine (K4.out _).mono ?_); rintro e w' ⟨rfl, ⟨nd, rfl⟩⟩) | (go_at_call 21; (with_reducible refine at_args #[.int .u16 0, .int .u16 16384] ?_); (with_reducible refine (K5.out _).mono ?_); rintro e w' ⟨rfl, ⟨nd, rfl⟩⟩) | (go_at_call 21; (with_reducible refine at_args #[.int .u16 1, .int .u16 32767] ?_); (with_reducible refine (K6.out _).mono ?_); rintro e w' ⟨rfl, ⟨nd, rfl⟩⟩) | (go_at_call 44; (with_reducible refine at_args #[.int .u16 0] ?_); (with_reducible refine (K7.out _).mono ?_); rintro e w' ⟨rfl, ⟨nd, rfl⟩⟩) | (go_at_call 44; (with_reducible refine at_args #[.int .u16 65535] ?_); (with_reducible refine (K8.out _).mono ?_); rintro e w' ⟨rfl, ⟨nd, rfl⟩⟩) | (go_at_call 44; (with_reducible refine at_args #[.int .u16 7] ?_); (with_reducible refine (K9.out _).mono ?_); rintro e w' ⟨rfl, ⟨nd, rfl⟩⟩) | (go_at_call 47; (with_reducible refine at_args #[.slice _ 8 _, .slice _ 8 _] ?_); refine (words_c _ _ _ _ [0, 32767, 32766, 16386, 24577, 3, 127, 32767] _ _ rfl rfl _ ?ra ?ca ?rb ?cb (by decide)).mono ?_; (case ra => exact (by repeat (first | (refine lit_Cn _ 23 .u16 [0, 32767, 32766, 16386, 24577, 3, 127, 32767] _ _ ?_ rfl (by decide); (simp; done)) | apply Kd.C_alloc | apply Kd.C_drewN | apply Kd.C_drew))); (case rb => exact (by repeat (first | (refine lit_Cn _ 23 .u16 [0, 32767, 32766, 16386, 24577, 3, 127, 32767] _ _ ?_ rfl (by decide); (simp; done)) | apply Kd.C_alloc | apply Kd.C_drewN | apply Kd.C_drew))); (case ca => decide); (case cb => decide); rintro e w' ⟨rfl, ⟨nd, rfl⟩⟩) | (go_at_call 47; (with_reducible refine at_args #[.slice _ 3 _, .slice _ 3 _] ?_); refine (words_c _ _ _ _ [2, 16384, 2] _ _ rfl rfl _ ?ra ?ca ?rb ?cb (by decide)).mono ?_; (case ra => exact (by repeat (first | (refine lit_Cn _ 23 .u16 [2, 16384, 2] _ _ ?_ rfl (by decide); (simp; done)) | apply Kd.C_alloc | apply Kd.C_drewN | apply Kd.C_drew))); (case rb => exact (by repeat (first | (refine lit_Cn _ 23 .u16 [2, 16384, 2] _ _ ?_ rfl (by decide); (simp; done)) | apply Kd.C_alloc | apply Kd.C_drewN | apply Kd.C_drew))); (case ca => decide); (case cb => decide); rintro e w' ⟨rfl, ⟨nd, rfl⟩⟩) | (go_at_call 23; (with_reducible refine (works_c _).mono ?_); rintro e w' ⟨rfl, hb⟩; have HBn := Aside0.mk (below_step (by repeat (first | (with_reducible first | exact HB.out | apply below_alloc | apply pw_below_drewN | apply below_drew1) | exact HB.out)) hb); clear HB hb; have HB := HBn; clear HBn))
      go_ret
      exact ⟨rfl, by repeat (first | (with_reducible first | exact HB.out | apply below_alloc | apply pw_below_drewN | apply below_drew1) | exact HB.out)⟩
    | 1, hg =>
      obtain rfl : i = 4 := by have := hg.out; omega
      clear hg
      have hc : wr.cell? ⟨w.heap.size + 1, 4, none⟩ = some (.int .u16 65535) := by
        obtain ⟨ad, e, h⟩ := Kd.at_int HC.out 4 (by decide) (by decide)
        cases e
        rw [add_plain] at h
        exact h
      have hi : ∀ W : World, (Instr.index 46 (.agg #[.int .u16 65534, .int .u16 1, .int .u16 16384, .int .u16 65535, .int .u16 65535]) (.int .i64 4)).run Try.prog W = .ok (.int .u16 65535) W := fun _ => by kernel_rfl
      go_wp2
      go_roundg 0
      case measure => omega
      case rel => exact ⟨5, rfl, ⟨by decide, by decide⟩, ⟨by (with_reducible repeat (first | apply Kd.C_alloc | apply Kd.C_drewN | apply Kd.C_drew)); exact HC.out⟩, ⟨by repeat (first | (with_reducible first | exact HB.out | apply below_alloc | apply pw_below_drewN | apply below_drew1) | exact HB.out)⟩⟩
    | 2, hg =>
      obtain rfl : i = 3 := by have := hg.out; omega
      clear hg
      have hc : wr.cell? ⟨w.heap.size + 1, 3, none⟩ = some (.int .u16 65535) := by
        obtain ⟨ad, e, h⟩ := Kd.at_int HC.out 3 (by decide) (by decide)
        cases e
        rw [add_plain] at h
        exact h
      have hi : ∀ W : World, (Instr.index 46 (.agg #[.int .u16 65534, .int .u16 1, .int .u16 16384, .int .u16 65535, .int .u16 65535]) (.int .i64 3)).run Try.prog W = .ok (.int .u16 65535) W := fun _ => by kernel_rfl
      go_wp2
      go_roundg 1
      case measure => omega
      case rel => exact ⟨4, rfl, ⟨by decide, by decide⟩, ⟨by (with_reducible repeat (first | apply Kd.C_alloc | apply Kd.C_drewN | apply Kd.C_drew)); exact HC.out⟩, ⟨by repeat (first | (with_reducible first | exact HB.out | apply below_alloc | apply pw_below_drewN | apply below_drew1) | exact HB.out)⟩⟩
    | 3, hg =>
      obtain rfl : i = 2 := by have := hg.out; omega
      clear hg
      have hc : wr.cell? ⟨w.heap.size + 1, 2, none⟩ = some (.int .u16 16384) := by
        obtain ⟨ad, e, h⟩ := Kd.at_int HC.out 2 (by decide) (by decide)
        cases e
        rw [add_plain] at h
        exact h
      have hi : ∀ W : World, (Instr.index 46 (.agg #[.int .u16 65534, .int .u16 1, .int .u16 16384, .int .u16 65535, .int .u16 65535]) (.int .i64 2)).run Try.prog W = .ok (.int .u16 16384) W := fun _ => by kernel_rfl
      go_wp2
      go_roundg 2
      case measure => omega
      case rel => exact ⟨3, rfl, ⟨by decide, by decide⟩, ⟨by (with_reducible repeat (first | apply Kd.C_alloc | apply Kd.C_drewN | apply Kd.C_drew)); exact HC.out⟩, ⟨by repeat (first | (with_reducible first | exact HB.out | apply below_alloc | apply pw_below_drewN | apply below_drew1) | exact HB.out)⟩⟩
    | 4, hg =>
      obtain rfl : i = 1 := by have := hg.out; omega
      clear hg
      have hc : wr.cell? ⟨w.heap.size + 1, 1, none⟩ = some (.int .u16 1) := by
        obtain ⟨ad, e, h⟩ := Kd.at_int HC.out 1 (by decide) (by decide)
        cases e
        rw [add_plain] at h
        exact h
      have hi : ∀ W : World, (Instr.index 46 (.agg #[.int .u16 65534, .int .u16 1, .int .u16 16384, .int .u16 65535, .int .u16 65535]) (.int .i64 1)).run Try.prog W = .ok (.int .u16 1) W := fun _ => by kernel_rfl
      go_wp2
      go_roundg 3
      case measure => omega
      case rel => exact ⟨2, rfl, ⟨by decide, by decide⟩, ⟨by (with_reducible repeat (first | apply Kd.C_alloc | apply Kd.C_drewN | apply Kd.C_drew)); exact HC.out⟩, ⟨by repeat (first | (with_reducible first | exact HB.out | apply below_alloc | apply pw_below_drewN | apply below_drew1) | exact HB.out)⟩⟩
    | 5, hg =>
      obtain rfl : i = 0 := by have := hg.out; omega
      clear hg
      have hc : wr.cell? ⟨w.heap.size + 1, 0, none⟩ = some (.int .u16 65534) := by
        obtain ⟨ad, e, h⟩ := Kd.at_int HC.out 0 (by decide) (by decide)
        cases e
        rw [add_plain] at h
        exact h
      have hi : ∀ W : World, (Instr.index 46 (.agg #[.int .u16 65534, .int .u16 1, .int .u16 16384, .int .u16 65535, .int .u16 65535]) (.int .i64 0)).run Try.prog W = .ok (.int .u16 65534) W := fun _ => by kernel_rfl
      go_wp2
      go_roundg 4
      case measure => omega
      case rel => exact ⟨1, rfl, ⟨by decide, by decide⟩, ⟨by (with_reducible repeat (first | apply Kd.C_alloc | apply Kd.C_drewN | apply Kd.C_drew)); exact HC.out⟩, ⟨by repeat (first | (with_reducible first | exact HB.out | apply below_alloc | apply pw_below_drewN | apply below_drew1) | exact HB.out)⟩⟩
    | g + 6, hg => exact absurd hg.out (by omega)

end Go.Proofs.Ytipcnefiadnlmaa.L01
