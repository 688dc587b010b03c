/- The walks of the laws of chapter 1: each returns true; no condition but the ranges of the kinds. -/
import Derived.Test.YtipcnefiadnlmaaOne
namespace Go.Proofs.Ytipcnefiadnlmaa.L01
open Go.RowKit Go.Proofs.Ytipcnefiadnlmaa.PAll Go.Proofs.Ytipcnefiadnlmaa.One Go.Proofs.YtipcnefiadnlmaaW.PrintWords Go.Proofs.YtipcnefiadnlmaaW.PrintLast Go.Proofs.YtipcnefiadnlmaaW.PrintMore Go.Proofs.Ytipcnefiadnlmaa.Plain
set_option linter.unusedVariables false
set_option linter.unusedSimpArgs false

theorem words_loop (l : List Int) (hl : l.length ≤ 1000) : ∀ d (i : Nat) k, i + d = l.length → d + 3 < k → perilunelaw01_words.l0 k l l (i : Int) = some true
  | 0, i, k, h, hk => by
    obtain ⟨k, rfl⟩ : ∃ m, k = m + 1 := ⟨k - 1, by omega⟩
    simp only [perilunelaw01_words.l0]
    rw [if_neg (by omega), beq_self_eq_true]
  | d + 1, i, k, h, hk => by
    obtain ⟨k, rfl⟩ : ∃ m, k = m + 1 := ⟨k - 1, by omega⟩
    have hw : wrap64 ((i : Int) + 1) = ((i + 1 : Nat) : Int) := by rw [w64 (by omega) (by omega)]; omega
    have hi : (i : Int) < (l.length : Int) := by omega
    simp only [perilunelaw01_words.l0]
    rw [if_pos hi, if_pos (by omega), if_pos hi, if_pos trivial, hw]
    exact words_loop l hl d (i + 1) k (by omega) (by omega)
theorem words_c (A0 : Option Addr) (c0 : Nat) (A1 : Option Addr) (c1 : Nat) (l : List Int) (n0 n1 : Nat) (e0 : l.length = n0) (e1 : l.length = n1) (w : World) (hr0 : Kd.C (Kd.int .u16) w A0 l.length l) (hc0 : l.length ≤ c0) (hr1 : Kd.C (Kd.int .u16) w A1 l.length l) (hc1 : l.length ≤ c1) (hl : l.length ≤ 1000) :
    Calls Try.prog 47 #[.slice A0 n0 c0, .slice A1 n1 c1] w fun e w' => e = .returned (.bool true) ∧ Drawn0 w w' := by
  subst e0; subst e1
  exact perilunelaw01_words.calls (l.length + 10) A0 c0 l A1 c1 l true w hr0 hc0 hr1 hc1 (by unfold perilunelaw01_words.f; exact words_loop l hl l.length 0 _ (by omega) (by omega))
theorem ints_loop (l : List Int) (hl : l.length ≤ 1000) : ∀ d (i : Nat) k, i + d = l.length → d + 3 < k → perilunelaw01_ints.l0 k l l (i : Int) = some true
  | 0, i, k, h, hk => by
    obtain ⟨k, rfl⟩ : ∃ m, k = m + 1 := ⟨k - 1, by omega⟩
    simp only [perilunelaw01_ints.l0]
    rw [if_neg (by omega), beq_self_eq_true]
  | d + 1, i, k, h, hk => by
    obtain ⟨k, rfl⟩ : ∃ m, k = m + 1 := ⟨k - 1, by omega⟩
    have hw : wrap64 ((i : Int) + 1) = ((i + 1 : Nat) : Int) := by rw [w64 (by omega) (by omega)]; omega
    have hi : (i : Int) < (l.length : Int) := by omega
    simp only [perilunelaw01_ints.l0]
    rw [if_pos hi, if_pos (by omega), if_pos hi, if_pos trivial, hw]
    exact ints_loop l hl d (i + 1) k (by omega) (by omega)
theorem ints_c (A0 : Option Addr) (c0 : Nat) (A1 : Option Addr) (c1 : Nat) (l : List Int) (n0 n1 : Nat) (e0 : l.length = n0) (e1 : l.length = n1) (w : World) (hr0 : Kd.C (Kd.int .i64) w A0 l.length l) (hc0 : l.length ≤ c0) (hr1 : Kd.C (Kd.int .i64) w A1 l.length l) (hc1 : l.length ≤ c1) (hl : l.length ≤ 1000) :
    Calls Try.prog 46 #[.slice A0 n0 c0, .slice A1 n1 c1] w fun e w' => e = .returned (.bool true) ∧ Drawn0 w w' := by
  subst e0; subst e1
  exact perilunelaw01_ints.calls (l.length + 10) A0 c0 l A1 c1 l true w hr0 hc0 hr1 hc1 (by unfold perilunelaw01_ints.f; exact ints_loop l hl l.length 0 _ (by omega) (by omega))
theorem lit_Cn (W : World) (e : TypeId) (k : IntKind) (xs : List Int) (a n : Nat) (ha : a = W.heap.size) (hn : n = xs.length) (hm : xs.length ≤ 9223372036854775807) : Kd.C (Kd.int k) (W.alloc (.cells (nums k xs).toArray e)) (some ⟨a, 0, none⟩) n xs := by
  subst ha; subst hn
  exact Kd.C_of_reads (d := (0 : Int)) (h1 := fun _ => rfl) (own_reads' (own_lit W 0 e k xs (Nat.zero_le _) hm))

set_option maxHeartbeats 4000000 in
theorem works_c  (w : World) :
    Calls Try.prog 23 #[] w fun e w' => e = .returned (.bool true) ∧ Below w.heap.size w w' := by
  have HB := Aside0.mk (Below.refl w.heap.size w)
  have KE := edit_c 20 5 (by decide) (by decide)
  rw [show editI 20 5 = 5 from rfl] at KE
  replace KE := Lib.hid KE
  have K1 := of_c (-1)
  rw [show ofI (-1) = 32766 from rfl] at K1
  rw [show ofE (-1) = 0 from rfl] at K1
  replace K1 := Lib.hid K1
  have K2 := of_c 16384
  rw [show ofI 16384 = 0 from rfl] at K2
  rw [show ofE 16384 = 3 from rfl] at K2
  replace K2 := Lib.hid K2
  have K3 := add_c 5 32765 (by decide) (by decide) (by decide) (by decide)
  rw [show addI 5 32765 = 3 from rfl] at K3
  replace K3 := Lib.hid K3
  have K4 := add_c 32766 1 (by decide) (by decide) (by decide) (by decide)
  rw [show addI 32766 1 = 32767 from rfl] at K4
  replace K4 := Lib.hid K4
  have K5 := add_c 32766 2 (by decide) (by decide) (by decide) (by decide)
  rw [show addI 32766 2 = 1 from rfl] at K5
  replace K5 := Lib.hid K5
  have K6 := add_c 16383 1 (by decide) (by decide) (by decide) (by decide)
  rw [show addI 16383 1 = 16384 from rfl] at K6
  replace K6 := Lib.hid K6
  have K7 := neg_c 0 (by decide) (by decide)
  rw [show negI 0 = 32767 from rfl] at K7
  replace K7 := Lib.hid K7
  have K8 := cr_c 5 (by decide) (by decide)
  rw [show crI 5 = 16386 from rfl] at K8
  replace K8 := Lib.hid K8
  have K9 := cl_c 16385 (by decide) (by decide)
  rw [show clI 16385 = 3 from rfl] at K9
  replace K9 := Lib.hid K9
  have K10 := sr_c 16386 (by decide) (by decide)
  rw [show srI 16386 = 24577 from rfl] at K10
  replace K10 := Lib.hid K10
  have K11 := op_c 32767 (by decide) (by decide)
  rw [show opI 32767 = 127 from rfl] at K11
  replace K11 := Lib.hid K11
  have K12 := td_c 3 5 (by decide) (by decide) (by decide) (by decide)
  rw [show tdI 3 5 = 32765 from rfl] at K12
  replace K12 := Lib.hid K12
  have K13 := cls_c 7 (by decide) (by decide)
  rw [show clsI 7 = 0 from rfl] at K13
  replace K13 := Lib.hid K13
  have K14 := cls_c 0 (by decide) (by decide)
  rw [show clsI 0 = 1 from rfl] at K14
  replace K14 := Lib.hid K14
  have K15 := cls_c 65530 (by decide) (by decide)
  rw [show clsI 65530 = 2 from rfl] at K15
  replace K15 := Lib.hid K15
  have K16 := cls_c 65535 (by decide) (by decide)
  rw [show clsI 65535 = 3 from rfl] at K16
  replace K16 := Lib.hid K16
  have K17 := ov_c 16384 (by decide) (by decide)
  rw [show ovI 16384 = 1 from rfl] at K17
  replace K17 := Lib.hid K17
  have K18 := ov_c 49151 (by decide) (by decide)
  rw [show ovI 49151 = -1 from rfl] at K18
  replace K18 := Lib.hid K18
  have K19 := dim_c 65530 (by decide) (by decide)
  rw [show dimI 65530 = 4 from rfl] at K19
  replace K19 := Lib.hid K19
  go_enter Try.func23, Try.ntmps23
  go_wp2_with (first | (go_at_call 24; (with_reducible refine at_args #[.int .i64 (-1)] ?_); (with_reducible refine (K1.out _).mono ?_); rintro e w' ⟨rfl, ⟨nd, rfl⟩⟩) | (go_at_call 24; (with_reducible refine at_args #[.int .i64 16384] ?_); (with_reducible refine (K2.out _).mono ?_); rintro e w' ⟨rfl, ⟨nd, rfl⟩⟩) | (go_at_call 30; (with_reducible refine at_args #[.int .u16 5, .int .u16 32765] ?_); (with_reducible refine (K3.out _).mono ?_); rintro e w' ⟨rfl, ⟨nd, rfl⟩⟩) | (go_at_call 30; (with_reducible refine at_args #[.int .u16 32766, .int .u16 1] ?_); (with_reducible refine (K4.out _).mono ?_); rintro e w' ⟨rfl, ⟨nd, rfl⟩⟩) | (go_at_call 30; (with_reducible refine at_args #[.int .u16 32766, .int .u16 2] ?_); (with_reducible refine (K5.out _).mono ?_); rintro e w' ⟨rfl, ⟨nd, rfl⟩⟩) | (go_at_call 30; (with_reducible refine at_args #[.int .u16 16383, .int .u16 1] ?_); (with_reducible refine (K6.out _).mono ?_); rintro e w' ⟨rfl, ⟨nd, rfl⟩⟩) | (go_at_call 28; (with_reducible refine at_args #[.int .u16 0] ?_); (with_reducible refine (K7.out _).mono ?_); rintro e w' ⟨rfl, ⟨nd, rfl⟩⟩) | (go_at_call 11; (with_reducible refine at_args #[.int .u16 5] ?_); (with_reducible refine (K8.out _).mono ?_); rintro e w' ⟨rfl, ⟨nd, rfl⟩⟩) | (go_at_call 13; (with_reducible refine at_args #[.int .u16 16385] ?_); (with_reducible refine (K9.out _).mono ?_); rintro e w' ⟨rfl, ⟨nd, rfl⟩⟩) | (go_at_call 15; (with_reducible refine at_args #[.int .u16 16386] ?_); (with_reducible refine (K10.out _).mono ?_); rintro e w' ⟨rfl, ⟨nd, rfl⟩⟩) | (go_at_call 17; (with_reducible refine at_args #[.int .u16 32767] ?_); (with_reducible refine (K11.out _).mono ?_); rintro e w' ⟨rfl, ⟨nd, rfl⟩⟩) | (go_at_call 19; (with_reducible refine at_args #[.int .i64 20, .int .u16 5] ?_); (with_reducible refine (KE.out _).mono ?_); rintro e w' ⟨rfl, hb⟩; have Hs : Aside0 (Kd.C (Kd.int .u16) _ (some ⟨w.heap.size, 0, none⟩) 5 [3, 32767, 1, 16384, 32767]) := ⟨Kd.C_below (by repeat (first | (refine lit_Cn _ 23 .u16 [3, 32767, 1, 16384, 32767] _ _ ?_ rfl (by decide); (simp; done)) | apply Kd.C_alloc | apply Kd.C_drewN | apply Kd.C_drew)) hb⟩; have HBn := Aside0.mk (below_step (by repeat (first | (with_reducible first | exact HB.out | apply below_alloc | apply pw_below_drewN | apply below_drew1) | exact HB.out)) hb); clear HB hb; have HB := HBn; clear HBn) | (go_at_call 21; (with_reducible refine at_args #[.int .u16 3, .int .u16 5] ?_); (with_reducible refine (K12.out _).mono ?_); rintro e w' ⟨rfl, ⟨nd, rfl⟩⟩) | (go_at_call 42; (with_reducible refine at_args #[.int .u16 7] ?_); (with_reducible refine (K13.out _).mono ?_); rintro e w' ⟨rfl, ⟨nd, rfl⟩⟩) | (go_at_call 42; (with_reducible refine at_args #[.int .u16 0] ?_); (with_reducible refine (K14.out _).mono ?_); rintro e w' ⟨rfl, ⟨nd, rfl⟩⟩) | (go_at_call 42; (with_reducible refine at_args #[.int .u16 65530] ?_); (with_reducible refine (K15.out _).mono ?_); rintro e w' ⟨rfl, ⟨nd, rfl⟩⟩) | (go_at_call 42; (with_reducible refine at_args #[.int .u16 65535] ?_); (with_reducible refine (K16.out _).mono ?_); rintro e w' ⟨rfl, ⟨nd, rfl⟩⟩) | (go_at_call 38; (with_reducible refine at_args #[.int .u16 16384] ?_); (with_reducible refine (K17.out _).mono ?_); rintro e w' ⟨rfl, ⟨nd, rfl⟩⟩) | (go_at_call 38; (with_reducible refine at_args #[.int .u16 49151] ?_); (with_reducible refine (K18.out _).mono ?_); rintro e w' ⟨rfl, ⟨nd, rfl⟩⟩) | (go_at_call 44; (with_reducible refine at_args #[.int .u16 65530] ?_); (with_reducible refine (K19.out _).mono ?_); rintro e w' ⟨rfl, ⟨nd, rfl⟩⟩) | (go_at_call 47; (with_reducible refine at_args #[.slice _ 5 _, .slice _ 5 _] ?_); refine (words_c _ _ _ _ [3, 32767, 1, 16384, 32767] _ _ rfl rfl _ ?ra ?ca ?rb ?cb (by decide)).mono ?_; (case ra => exact (by repeat (first | exact Hs.out | (refine lit_Cn _ 23 .u16 [3, 32767, 1, 16384, 32767] _ _ ?_ rfl (by decide); (simp; done)) | apply Kd.C_alloc | apply Kd.C_drewN | apply Kd.C_drew))); (case rb => exact (by repeat (first | (refine lit_Cn _ 23 .u16 [3, 32767, 1, 16384, 32767] _ _ ?_ rfl (by decide); (simp; done)) | apply Kd.C_alloc | apply Kd.C_drewN | apply Kd.C_drew))); (case ca => decide); (case cb => decide); rintro e w' ⟨rfl, ⟨nd, rfl⟩⟩) | (go_at_call 47; (with_reducible refine at_args #[.slice _ 6 _, .slice _ 6 _] ?_); refine (words_c _ _ _ _ [16386, 3, 24577, 127, 5, 32765] _ _ rfl rfl _ ?ra ?ca ?rb ?cb (by decide)).mono ?_; (case ra => exact (by repeat (first | (refine lit_Cn _ 23 .u16 [16386, 3, 24577, 127, 5, 32765] _ _ ?_ rfl (by decide); (simp; done)) | apply Kd.C_alloc | apply Kd.C_drewN | apply Kd.C_drew))); (case rb => exact (by repeat (first | (refine lit_Cn _ 23 .u16 [16386, 3, 24577, 127, 5, 32765] _ _ ?_ rfl (by decide); (simp; done)) | apply Kd.C_alloc | apply Kd.C_drewN | apply Kd.C_drew))); (case ca => decide); (case cb => decide); rintro e w' ⟨rfl, ⟨nd, rfl⟩⟩) | (go_at_call 46; (with_reducible refine at_args #[.slice _ 6 _, .slice _ 6 _] ?_); refine (ints_c _ _ _ _ [0, 1, 2, 3, 1, -1] _ _ rfl rfl _ ?ra ?ca ?rb ?cb (by decide)).mono ?_; (case ra => exact (by repeat (first | (refine lit_Cn _ 3 .i64 [0, 1, 2, 3, 1, -1] _ _ ?_ rfl (by decide); (simp; done)) | apply Kd.C_alloc | apply Kd.C_drewN | apply Kd.C_drew))); (case rb => exact (by repeat (first | (refine lit_Cn _ 3 .i64 [0, 1, 2, 3, 1, -1] _ _ ?_ rfl (by decide); (simp; done)) | apply Kd.C_alloc | apply Kd.C_drewN | apply Kd.C_drew))); (case ca => decide); (case cb => decide); rintro e w' ⟨rfl, ⟨nd, rfl⟩⟩))
  go_ret
  exact ⟨rfl, by repeat (first | (with_reducible first | exact HB.out | apply below_alloc | apply pw_below_drewN | apply below_drew1) | exact HB.out)⟩

set_option maxHeartbeats 1000000 in
theorem words_walk (x y : Int) (x0 : 0 ≤ x) (x1 : x < 65536) (y0 : 0 ≤ y) (y1 : y < 65536) (n : Int) (w : World) :
    Calls Try.prog 4 #[.int .u16 x, .int .u16 y, .int .i64 n] w fun e w' => e = .returned (.bool true) ∧ Below w.heap.size w w' := by
  have HB := Aside0.mk (Below.refl w.heap.size w)
  have K1 := value_c x x0 x1
  replace K1 := Lib.hid K1
  have K2 := rvalue_c x x0 x1
  replace K2 := Lib.hid K2
  have K3 := neg_c x x0 x1
  replace K3 := Lib.hid K3
  have K4 := rneg_c x x0 x1
  replace K4 := Lib.hid K4
  have K5 := add_c x y x0 x1 y0 y1
  replace K5 := Lib.hid K5
  have K6 := radd_c x y x0 x1 y0 y1
  replace K6 := Lib.hid K6
  go_enter Try.func4, Try.ntmps4
  go_wp2_with (first | (go_at_call 24; (with_reducible refine (of_c _ _).mono ?_); rintro e w' ⟨rfl, ⟨nd, rfl⟩⟩) | (go_at_call 25; (with_reducible refine (rof_c _ _).mono ?_); rintro e w' ⟨rfl, ⟨nd, rfl⟩⟩) | (go_at_call 26; (with_reducible refine at_args #[.int .u16 x] ?_); (with_reducible refine (K1.out _).mono ?_); rintro e w' ⟨rfl, ⟨nd, rfl⟩⟩) | (go_at_call 27; (with_reducible refine at_args #[.int .u16 x] ?_); (with_reducible refine (K2.out _).mono ?_); rintro e w' ⟨rfl, ⟨nd, rfl⟩⟩) | (go_at_call 28; (with_reducible refine at_args #[.int .u16 x] ?_); (with_reducible refine (K3.out _).mono ?_); rintro e w' ⟨rfl, ⟨nd, rfl⟩⟩) | (go_at_call 29; (with_reducible refine at_args #[.int .u16 x] ?_); (with_reducible refine (K4.out _).mono ?_); rintro e w' ⟨rfl, ⟨nd, rfl⟩⟩) | (go_at_call 30; (with_reducible refine at_args #[.int .u16 x, .int .u16 y] ?_); (with_reducible refine (K5.out _).mono ?_); rintro e w' ⟨rfl, ⟨nd, rfl⟩⟩) | (go_at_call 31; (with_reducible refine at_args #[.int .u16 x, .int .u16 y] ?_); (with_reducible refine (K6.out _).mono ?_); rintro e w' ⟨rfl, ⟨nd, rfl⟩⟩) | (go_at_call 23; (with_reducible refine (works_c _).mono ?_); rintro e w' ⟨rfl, hb⟩; have HBn := Aside0.mk (below_step (by repeat (first | (with_reducible first | exact HB.out | apply below_alloc | apply pw_below_drewN | apply below_drew1) | exact HB.out)) hb); clear HB hb; have HB := HBn; clear HBn))
  go_ret
  exact ⟨rfl, by repeat (first | (with_reducible first | exact HB.out | apply below_alloc | apply pw_below_drewN | apply below_drew1) | exact HB.out)⟩

set_option maxHeartbeats 1000000 in
theorem accs_walk (v x y : Int) (v0 : 0 ≤ v) (v1 : v < 65536) (x0 : 0 ≤ x) (x1 : x < 65536) (y0 : 0 ≤ y) (y1 : y < 65536) (w : World) :
    Calls Try.prog 5 #[.int .u16 v, .int .u16 x, .int .u16 y] w fun e w' => e = .returned (.bool true) ∧ Below w.heap.size w w' := by
  have HB := Aside0.mk (Below.refl w.heap.size w)
  have K1 := ext_c v v0 v1
  replace K1 := Lib.hid K1
  have K2 := rext_c v v0 v1
  replace K2 := Lib.hid K2
  have K3 := addAcc_c x y x0 x1 y0 y1
  replace K3 := Lib.hid K3
  have K4 := raddAcc_c x y x0 x1 y0 y1
  replace K4 := Lib.hid K4
  have K5 := negAcc_c x x0 x1
  replace K5 := Lib.hid K5
  have K6 := rnegAcc_c x x0 x1
  replace K6 := Lib.hid K6
  have K7 := ov_c x x0 x1
  replace K7 := Lib.hid K7
  have K8 := rov_c x x0 x1
  replace K8 := Lib.hid K8
  have K9 := cor_c x x0 x1
  replace K9 := Lib.hid K9
  have K10 := rcor_c x x0 x1
  replace K10 := Lib.hid K10
  have K11 := cls_c x x0 x1
  replace K11 := Lib.hid K11
  have K12 := rcls_c x x0 x1
  replace K12 := Lib.hid K12
  have K13 := dim_c x x0 x1
  replace K13 := Lib.hid K13
  go_enter Try.func5, Try.ntmps5
  go_wp2_with (first | (go_at_call 32; (with_reducible refine at_args #[.int .u16 v] ?_); (with_reducible refine (K1.out _).mono ?_); rintro e w' ⟨rfl, ⟨nd, rfl⟩⟩) | (go_at_call 33; (with_reducible refine at_args #[.int .u16 v] ?_); (with_reducible refine (K2.out _).mono ?_); rintro e w' ⟨rfl, ⟨nd, rfl⟩⟩) | (go_at_call 34; (with_reducible refine at_args #[.int .u16 x, .int .u16 y] ?_); (with_reducible refine (K3.out _).mono ?_); rintro e w' ⟨rfl, ⟨nd, rfl⟩⟩) | (go_at_call 35; (with_reducible refine at_args #[.int .u16 x, .int .u16 y] ?_); (with_reducible refine (K4.out _).mono ?_); rintro e w' ⟨rfl, ⟨nd, rfl⟩⟩) | (go_at_call 36; (with_reducible refine at_args #[.int .u16 x] ?_); (with_reducible refine (K5.out _).mono ?_); rintro e w' ⟨rfl, ⟨nd, rfl⟩⟩) | (go_at_call 37; (with_reducible refine at_args #[.int .u16 x] ?_); (with_reducible refine (K6.out _).mono ?_); rintro e w' ⟨rfl, ⟨nd, rfl⟩⟩) | (go_at_call 38; (with_reducible refine at_args #[.int .u16 x] ?_); (with_reducible refine (K7.out _).mono ?_); rintro e w' ⟨rfl, ⟨nd, rfl⟩⟩) | (go_at_call 39; (with_reducible refine at_args #[.int .u16 x] ?_); (with_reducible refine (K8.out _).mono ?_); rintro e w' ⟨rfl, ⟨nd, rfl⟩⟩) | (go_at_call 40; (with_reducible refine at_args #[.int .u16 x] ?_); (with_reducible refine (K9.out _).mono ?_); rintro e w' ⟨rfl, ⟨nd, rfl⟩⟩) | (go_at_call 41; (with_reducible refine at_args #[.int .u16 x] ?_); (with_reducible refine (K10.out _).mono ?_); rintro e w' ⟨rfl, ⟨nd, rfl⟩⟩) | (go_at_call 42; (with_reducible refine at_args #[.int .u16 x] ?_); (with_reducible refine (K11.out _).mono ?_); rintro e w' ⟨rfl, ⟨nd, rfl⟩⟩) | (go_at_call 43; (with_reducible refine at_args #[.int .u16 x] ?_); (with_reducible refine (K12.out _).mono ?_); rintro e w' ⟨rfl, ⟨nd, rfl⟩⟩) | (go_at_call 44; (with_reducible refine at_args #[.int .u16 x] ?_); (with_reducible refine (K13.out _).mono ?_); rintro e w' ⟨rfl, ⟨nd, rfl⟩⟩) | (go_at_call 45; (with_reducible refine (rdim_c x x0 x1 _).mono ?_); rintro e w' ⟨rfl, hb⟩; have HBn := Aside0.mk (below_step (by repeat (first | (with_reducible first | exact HB.out | apply below_alloc | apply pw_below_drewN | apply below_drew1) | exact HB.out)) hb); clear HB hb; have HB := HBn; clear HBn) | (go_at_call 23; (with_reducible refine (works_c _).mono ?_); rintro e w' ⟨rfl, hb⟩; have HBn := Aside0.mk (below_step (by repeat (first | (with_reducible first | exact HB.out | apply below_alloc | apply pw_below_drewN | apply below_drew1) | exact HB.out)) hb); clear HB hb; have HB := HBn; clear HBn))
  go_ret
  exact ⟨rfl, by repeat (first | (with_reducible first | exact HB.out | apply below_alloc | apply pw_below_drewN | apply below_drew1) | exact HB.out)⟩

theorem ext_r (x : Int) (h0 : 0 ≤ x) (h1 : x < 65536) : 0 ≤ extI x ∧ extI x < 65536 := by unfold extI; split <;> omega
theorem val_r (x : Int) : -16383 ≤ valI x ∧ valI x ≤ 16383 := by unfold valI; split <;> omega
theorem add_r (x y : Int) (x0 : 0 ≤ x) (x1 : x < 65536) (y0 : 0 ≤ y) (y1 : y < 65536) : 0 ≤ addI x y ∧ addI x y < 65536 := by unfold addI; split <;> omega
theorem addAcc_r (x y : Int) (x0 : 0 ≤ x) (x1 : x < 65536) (y0 : 0 ≤ y) (y1 : y < 65536) : 0 ≤ addAccI x y ∧ addAccI x y < 65536 := by unfold addAccI; split <;> omega
theorem cor_r (x : Int) (h0 : 0 ≤ x) (h1 : x < 65536) : 0 ≤ corI x ∧ corI x < 65536 := by unfold corI; omega
theorem add_comm (x y : Int) : addI x y = addI y x := by unfold addI; rw [Int.add_comm (x % 32768)]
theorem sums_plain (x y : Int) (x0 : 0 ≤ x) (x1 : x < 65536) (y0 : 0 ≤ y) (y1 : y < 65536) :
    ovI (addAccI (extI x) (extI y)) = (if valI x + valI y > 16383 then 1 else if valI x + valI y < -16383 then -1 else 0) ∧
    valI (corI (addAccI (extI x) (extI y))) = valI x + valI y - 16384 * ovI (addAccI (extI x) (extI y)) ∧
    (valI x + valI y ≤ 16383 → -16383 ≤ valI x + valI y → valI (addI x y) = valI x + valI y) := by
  unfold valI corI ovI addAccI extI addI
  refine ⟨?_, ?_, ?_⟩
  all_goals (repeat' split) <;> omega

set_option maxHeartbeats 1000000 in
theorem sums_hi (x y : Int) (x0 : 0 ≤ x) (x1 : x < 65536) (y0 : 0 ≤ y) (y1 : y < 65536) (hs : valI x + valI y > 16383) (w : World) :
    Calls Try.prog 8 #[.int .u16 x, .int .u16 y] w fun e w' => e = .returned (.bool true) ∧ Below w.heap.size w w' := by
  have HB := Aside0.mk (Below.refl w.heap.size w)
  have F := sums_plain x y x0 x1 y0 y1
  have vx := val_r x
  have vy := val_r y
  obtain ⟨A, hA⟩ : ∃ A, addAccI (extI x) (extI y) = A := ⟨_, rfl⟩
  obtain ⟨C, hC⟩ : ∃ C, corI A = C := ⟨_, rfl⟩
  have A0 : 0 ≤ A ∧ A < 65536 := hA ▸ addAcc_r _ _ (ext_r x x0 x1).1 (ext_r x x0 x1).2 (ext_r y y0 y1).1 (ext_r y y0 y1).2
  obtain ⟨A0, A1⟩ := A0
  have C0 : 0 ≤ C ∧ C < 65536 := hC ▸ cor_r A A0 A1
  obtain ⟨C0, C1⟩ := C0
  rw [hA, hC] at F
  have hO : ovI A = 1 := by have := F.1; rw [this]; rw [if_pos hs]
  have hV : valI C = valI x + valI y - 16384 * 1 := by have := F.2.1; rw [hO] at this; exact this
  have b1 : decide (16383 < valI x + valI y) = true := decide_eq_true hs
  have b2 : decide (valI x + valI y < -16383) = false := decide_eq_false (by omega)
  have K1 := value_c x x0 x1
  replace K1 := Lib.hid K1
  have K2 := value_c y y0 y1
  replace K2 := Lib.hid K2
  have K3 := ext_c x x0 x1
  replace K3 := Lib.hid K3
  have K4 := ext_c y y0 y1
  replace K4 := Lib.hid K4
  have K5 := addAcc_c (extI x) (extI y) (ext_r x x0 x1).1 (ext_r x x0 x1).2 (ext_r y y0 y1).1 (ext_r y y0 y1).2
  rw [hA] at K5
  replace K5 := Lib.hid K5
  have K6 := ov_c A A0 A1
  rw [hO] at K6
  replace K6 := Lib.hid K6
  have K7 := cor_c A A0 A1
  rw [hC] at K7
  replace K7 := Lib.hid K7
  have K8 := value_c C C0 C1
  rw [hV] at K8
  replace K8 := Lib.hid K8
  have K9 := add_c x y x0 x1 y0 y1
  replace K9 := Lib.hid K9
  have K10 := add_c y x y0 y1 x0 x1
  rw [add_comm y x] at K10
  replace K10 := Lib.hid K10
  have K11 := value_c (addI x y) (add_r x y x0 x1 y0 y1).1 (add_r x y x0 x1 y0 y1).2
  replace K11 := Lib.hid K11
  clear F hA hC hO hV hs
  go_enter Try.func8, Try.ntmps8
  go_wp2_with (first | (go_at_call 26; (with_reducible refine at_args #[.int .u16 x] ?_); (with_reducible refine (K1.out _).mono ?_); rintro e w' ⟨rfl, ⟨nd, rfl⟩⟩) | (go_at_call 26; (with_reducible refine at_args #[.int .u16 y] ?_); (with_reducible refine (K2.out _).mono ?_); rintro e w' ⟨rfl, ⟨nd, rfl⟩⟩) | (go_at_call 32; (with_reducible refine at_args #[.int .u16 x] ?_); (with_reducible refine (K3.out _).mono ?_); rintro e w' ⟨rfl, ⟨nd, rfl⟩⟩) | (go_at_call 32; (with_reducible refine at_args #[.int .u16 y] ?_); (with_reducible refine (K4.out _).mono ?_); rintro e w' ⟨rfl, ⟨nd, rfl⟩⟩) | (go_at_call 34; (with_reducible refine at_args #[.int .u16 (extI x), .int .u16 (extI y)] ?_); (with_reducible refine (K5.out _).mono ?_); rintro e w' ⟨rfl, ⟨nd, rfl⟩⟩) | (go_at_call 38; (with_reducible refine at_args #[.int .u16 A] ?_); (with_reducible refine (K6.out _).mono ?_); rintro e w' ⟨rfl, ⟨nd, rfl⟩⟩) | (go_at_call 40; (with_reducible refine at_args #[.int .u16 A] ?_); (with_reducible refine (K7.out _).mono ?_); rintro e w' ⟨rfl, ⟨nd, rfl⟩⟩) | (go_at_call 26; (with_reducible refine at_args #[.int .u16 C] ?_); (with_reducible refine (K8.out _).mono ?_); rintro e w' ⟨rfl, ⟨nd, rfl⟩⟩) | (go_at_call 30; (with_reducible refine at_args #[.int .u16 x, .int .u16 y] ?_); (with_reducible refine (K9.out _).mono ?_); rintro e w' ⟨rfl, ⟨nd, rfl⟩⟩) | (go_at_call 30; (with_reducible refine at_args #[.int .u16 y, .int .u16 x] ?_); (with_reducible refine (K10.out _).mono ?_); rintro e w' ⟨rfl, ⟨nd, rfl⟩⟩) | (go_at_call 26; (with_reducible refine at_args #[.int .u16 (addI x y)] ?_); (with_reducible refine (K11.out _).mono ?_); rintro e w' ⟨rfl, ⟨nd, rfl⟩⟩) | (go_at_call 23; (with_reducible refine (works_c _).mono ?_); rintro e w' ⟨rfl, hb⟩; have HBn := Aside0.mk (below_step (by repeat (first | (with_reducible first | exact HB.out | apply below_alloc | apply pw_below_drewN | apply below_drew1) | exact HB.out)) hb); clear HB hb; have HB := HBn; clear HBn))
  go_ret
  exact ⟨rfl, by repeat (first | (with_reducible first | exact HB.out | apply below_alloc | apply pw_below_drewN | apply below_drew1) | exact HB.out)⟩

set_option maxHeartbeats 1000000 in
theorem sums_lo (x y : Int) (x0 : 0 ≤ x) (x1 : x < 65536) (y0 : 0 ≤ y) (y1 : y < 65536) (hs : valI x + valI y < -16383) (w : World) :
    Calls Try.prog 8 #[.int .u16 x, .int .u16 y] w fun e w' => e = .returned (.bool true) ∧ Below w.heap.size w w' := by
  have HB := Aside0.mk (Below.refl w.heap.size w)
  have F := sums_plain x y x0 x1 y0 y1
  have vx := val_r x
  have vy := val_r y
  obtain ⟨A, hA⟩ : ∃ A, addAccI (extI x) (extI y) = A := ⟨_, rfl⟩
  obtain ⟨C, hC⟩ : ∃ C, corI A = C := ⟨_, rfl⟩
  have A0 : 0 ≤ A ∧ A < 65536 := hA ▸ addAcc_r _ _ (ext_r x x0 x1).1 (ext_r x x0 x1).2 (ext_r y y0 y1).1 (ext_r y y0 y1).2
  obtain ⟨A0, A1⟩ := A0
  have C0 : 0 ≤ C ∧ C < 65536 := hC ▸ cor_r A A0 A1
  obtain ⟨C0, C1⟩ := C0
  rw [hA, hC] at F
  have hO : ovI A = -1 := by have := F.1; rw [this]; rw [if_neg (by omega), if_pos hs]
  have hV : valI C = valI x + valI y - 16384 * (-1) := by have := F.2.1; rw [hO] at this; exact this
  have b1 : decide (16383 < valI x + valI y) = false := decide_eq_false (by omega)
  have b2 : decide (valI x + valI y < -16383) = true := decide_eq_true hs
  have K1 := value_c x x0 x1
  replace K1 := Lib.hid K1
  have K2 := value_c y y0 y1
  replace K2 := Lib.hid K2
  have K3 := ext_c x x0 x1
  replace K3 := Lib.hid K3
  have K4 := ext_c y y0 y1
  replace K4 := Lib.hid K4
  have K5 := addAcc_c (extI x) (extI y) (ext_r x x0 x1).1 (ext_r x x0 x1).2 (ext_r y y0 y1).1 (ext_r y y0 y1).2
  rw [hA] at K5
  replace K5 := Lib.hid K5
  have K6 := ov_c A A0 A1
  rw [hO] at K6
  replace K6 := Lib.hid K6
  have K7 := cor_c A A0 A1
  rw [hC] at K7
  replace K7 := Lib.hid K7
  have K8 := value_c C C0 C1
  rw [hV] at K8
  replace K8 := Lib.hid K8
  have K9 := add_c x y x0 x1 y0 y1
  replace K9 := Lib.hid K9
  have K10 := add_c y x y0 y1 x0 x1
  rw [add_comm y x] at K10
  replace K10 := Lib.hid K10
  have K11 := value_c (addI x y) (add_r x y x0 x1 y0 y1).1 (add_r x y x0 x1 y0 y1).2
  replace K11 := Lib.hid K11
  clear F hA hC hO hV hs
  go_enter Try.func8, Try.ntmps8
  go_wp2_with (first | (go_at_call 26; (with_reducible refine at_args #[.int .u16 x] ?_); (with_reducible refine (K1.out _).mono ?_); rintro e w' ⟨rfl, ⟨nd, rfl⟩⟩) | (go_at_call 26; (with_reducible refine at_args #[.int .u16 y] ?_); (with_reducible refine (K2.out _).mono ?_); rintro e w' ⟨rfl, ⟨nd, rfl⟩⟩) | (go_at_call 32; (with_reducible refine at_args #[.int .u16 x] ?_); (with_reducible refine (K3.out _).mono ?_); rintro e w' ⟨rfl, ⟨nd, rfl⟩⟩) | (go_at_call 32; (with_reducible refine at_args #[.int .u16 y] ?_); (with_reducible refine (K4.out _).mono ?_); rintro e w' ⟨rfl, ⟨nd, rfl⟩⟩) | (go_at_call 34; (with_reducible refine at_args #[.int .u16 (extI x), .int .u16 (extI y)] ?_); (with_reducible refine (K5.out _).mono ?_); rintro e w' ⟨rfl, ⟨nd, rfl⟩⟩) | (go_at_call 38; (with_reducible refine at_args #[.int .u16 A] ?_); (with_reducible refine (K6.out _).mono ?_); rintro e w' ⟨rfl, ⟨nd, rfl⟩⟩) | (go_at_call 40; (with_reducible refine at_args #[.int .u16 A] ?_); (with_reducible refine (K7.out _).mono ?_); rintro e w' ⟨rfl, ⟨nd, rfl⟩⟩) | (go_at_call 26; (with_reducible refine at_args #[.int .u16 C] ?_); (with_reducible refine (K8.out _).mono ?_); rintro e w' ⟨rfl, ⟨nd, rfl⟩⟩) | (go_at_call 30; (with_reducible refine at_args #[.int .u16 x, .int .u16 y] ?_); (with_reducible refine (K9.out _).mono ?_); rintro e w' ⟨rfl, ⟨nd, rfl⟩⟩) | (go_at_call 30; (with_reducible refine at_args #[.int .u16 y, .int .u16 x] ?_); (with_reducible refine (K10.out _).mono ?_); rintro e w' ⟨rfl, ⟨nd, rfl⟩⟩) | (go_at_call 26; (with_reducible refine at_args #[.int .u16 (addI x y)] ?_); (with_reducible refine (K11.out _).mono ?_); rintro e w' ⟨rfl, ⟨nd, rfl⟩⟩) | (go_at_call 23; (with_reducible refine (works_c _).mono ?_); rintro e w' ⟨rfl, hb⟩; have HBn := Aside0.mk (below_step (by repeat (first | (with_reducible first | exact HB.out | apply below_alloc | apply pw_below_drewN | apply below_drew1) | exact HB.out)) hb); clear HB hb; have HB := HBn; clear HBn))
  go_ret
  exact ⟨rfl, by repeat (first | (with_reducible first | exact HB.out | apply below_alloc | apply pw_below_drewN | apply below_drew1) | exact HB.out)⟩

set_option maxHeartbeats 1000000 in
theorem sums_mid (x y : Int) (x0 : 0 ≤ x) (x1 : x < 65536) (y0 : 0 ≤ y) (y1 : y < 65536) (hs : valI x + valI y ≤ 16383 ∧ -16383 ≤ valI x + valI y) (w : World) :
    Calls Try.prog 8 #[.int .u16 x, .int .u16 y] w fun e w' => e = .returned (.bool true) ∧ Below w.heap.size w w' := by
  have HB := Aside0.mk (Below.refl w.heap.size w)
  have F := sums_plain x y x0 x1 y0 y1
  have vx := val_r x
  have vy := val_r y
  obtain ⟨A, hA⟩ : ∃ A, addAccI (extI x) (extI y) = A := ⟨_, rfl⟩
  obtain ⟨C, hC⟩ : ∃ C, corI A = C := ⟨_, rfl⟩
  have A0 : 0 ≤ A ∧ A < 65536 := hA ▸ addAcc_r _ _ (ext_r x x0 x1).1 (ext_r x x0 x1).2 (ext_r y y0 y1).1 (ext_r y y0 y1).2
  obtain ⟨A0, A1⟩ := A0
  have C0 : 0 ≤ C ∧ C < 65536 := hC ▸ cor_r A A0 A1
  obtain ⟨C0, C1⟩ := C0
  rw [hA, hC] at F
  have hO : ovI A = 0 := by have := F.1; rw [this]; rw [if_neg (by omega), if_neg (by omega)]
  have hV : valI C = valI x + valI y - 16384 * 0 := by have := F.2.1; rw [hO] at this; exact this
  have hS := F.2.2 hs.1 hs.2
  have b1 : decide (16383 < valI x + valI y) = false := decide_eq_false (by omega)
  have b2 : decide (valI x + valI y < -16383) = false := decide_eq_false (by omega)
  have K1 := value_c x x0 x1
  replace K1 := Lib.hid K1
  have K2 := value_c y y0 y1
  replace K2 := Lib.hid K2
  have K3 := ext_c x x0 x1
  replace K3 := Lib.hid K3
  have K4 := ext_c y y0 y1
  replace K4 := Lib.hid K4
  have K5 := addAcc_c (extI x) (extI y) (ext_r x x0 x1).1 (ext_r x x0 x1).2 (ext_r y y0 y1).1 (ext_r y y0 y1).2
  rw [hA] at K5
  replace K5 := Lib.hid K5
  have K6 := ov_c A A0 A1
  rw [hO] at K6
  replace K6 := Lib.hid K6
  have K7 := cor_c A A0 A1
  rw [hC] at K7
  replace K7 := Lib.hid K7
  have K8 := value_c C C0 C1
  rw [hV] at K8
  replace K8 := Lib.hid K8
  have K9 := add_c x y x0 x1 y0 y1
  replace K9 := Lib.hid K9
  have K10 := add_c y x y0 y1 x0 x1
  rw [add_comm y x] at K10
  replace K10 := Lib.hid K10
  have K11 := value_c (addI x y) (add_r x y x0 x1 y0 y1).1 (add_r x y x0 x1 y0 y1).2
  rw [hS] at K11
  replace K11 := Lib.hid K11
  clear F hA hC hO hV hs hS
  go_enter Try.func8, Try.ntmps8
  go_wp2_with (first | (go_at_call 26; (with_reducible refine at_args #[.int .u16 x] ?_); (with_reducible refine (K1.out _).mono ?_); rintro e w' ⟨rfl, ⟨nd, rfl⟩⟩) | (go_at_call 26; (with_reducible refine at_args #[.int .u16 y] ?_); (with_reducible refine (K2.out _).mono ?_); rintro e w' ⟨rfl, ⟨nd, rfl⟩⟩) | (go_at_call 32; (with_reducible refine at_args #[.int .u16 x] ?_); (with_reducible refine (K3.out _).mono ?_); rintro e w' ⟨rfl, ⟨nd, rfl⟩⟩) | (go_at_call 32; (with_reducible refine at_args #[.int .u16 y] ?_); (with_reducible refine (K4.out _).mono ?_); rintro e w' ⟨rfl, ⟨nd, rfl⟩⟩) | (go_at_call 34; (with_reducible refine at_args #[.int .u16 (extI x), .int .u16 (extI y)] ?_); (with_reducible refine (K5.out _).mono ?_); rintro e w' ⟨rfl, ⟨nd, rfl⟩⟩) | (go_at_call 38; (with_reducible refine at_args #[.int .u16 A] ?_); (with_reducible refine (K6.out _).mono ?_); rintro e w' ⟨rfl, ⟨nd, rfl⟩⟩) | (go_at_call 40; (with_reducible refine at_args #[.int .u16 A] ?_); (with_reducible refine (K7.out _).mono ?_); rintro e w' ⟨rfl, ⟨nd, rfl⟩⟩) | (go_at_call 26; (with_reducible refine at_args #[.int .u16 C] ?_); (with_reducible refine (K8.out _).mono ?_); rintro e w' ⟨rfl, ⟨nd, rfl⟩⟩) | (go_at_call 30; (with_reducible refine at_args #[.int .u16 x, .int .u16 y] ?_); (with_reducible refine (K9.out _).mono ?_); rintro e w' ⟨rfl, ⟨nd, rfl⟩⟩) | (go_at_call 30; (with_reducible refine at_args #[.int .u16 y, .int .u16 x] ?_); (with_reducible refine (K10.out _).mono ?_); rintro e w' ⟨rfl, ⟨nd, rfl⟩⟩) | (go_at_call 26; (with_reducible refine at_args #[.int .u16 (addI x y)] ?_); (with_reducible refine (K11.out _).mono ?_); rintro e w' ⟨rfl, ⟨nd, rfl⟩⟩) | (go_at_call 23; (with_reducible refine (works_c _).mono ?_); rintro e w' ⟨rfl, hb⟩; have HBn := Aside0.mk (below_step (by repeat (first | (with_reducible first | exact HB.out | apply below_alloc | apply pw_below_drewN | apply below_drew1) | exact HB.out)) hb); clear HB hb; have HB := HBn; clear HBn))
  go_ret
  exact ⟨rfl, by repeat (first | (with_reducible first | exact HB.out | apply below_alloc | apply pw_below_drewN | apply below_drew1) | exact HB.out)⟩

theorem words_law (a0 a1 a2 : Int) (w : World) (w0 : (Lit.int .u16 a0).wf = true) (w1 : (Lit.int .u16 a1).wf = true) (w2 : (Lit.int .i64 a2).wf = true) :
    Calls Try.prog 4 #[.int .u16 a0, .int .u16 a1, .int .i64 a2] w fun e w' => e = .returned (.bool true) ∧ Below w.heap.size w w' := by
  obtain ⟨n, rfl, hn⟩ := wf16 w0
  obtain ⟨m, rfl, hm⟩ := wf16 w1
  exact words_walk _ _ (by omega) (by omega) (by omega) (by omega) a2 w
theorem accs_law (a0 a1 a2 : Int) (w : World) (w0 : (Lit.int .u16 a0).wf = true) (w1 : (Lit.int .u16 a1).wf = true) (w2 : (Lit.int .u16 a2).wf = true) :
    Calls Try.prog 5 #[.int .u16 a0, .int .u16 a1, .int .u16 a2] w fun e w' => e = .returned (.bool true) ∧ Below w.heap.size w w' := by
  obtain ⟨n, rfl, hn⟩ := wf16 w0
  obtain ⟨m, rfl, hm⟩ := wf16 w1
  obtain ⟨k, rfl, hk⟩ := wf16 w2
  exact accs_walk _ _ _ (by omega) (by omega) (by omega) (by omega) (by omega) (by omega) w
theorem sums_law (a0 a1 : Int) (w : World) (w0 : (Lit.int .u16 a0).wf = true) (w1 : (Lit.int .u16 a1).wf = true) :
    Calls Try.prog 8 #[.int .u16 a0, .int .u16 a1] w fun e w' => e = .returned (.bool true) ∧ Below w.heap.size w w' := by
  obtain ⟨n, rfl, hn⟩ := wf16 w0
  obtain ⟨m, rfl, hm⟩ := wf16 w1
  by_cases a : valI n + valI m > 16383
  · exact sums_hi _ _ (by omega) (by omega) (by omega) (by omega) a w
  · by_cases b : valI n + valI m < -16383
    · exact sums_lo _ _ (by omega) (by omega) (by omega) (by omega) b w
    · exact sums_mid _ _ (by omega) (by omega) (by omega) (by omega) ⟨by omega, by omega⟩ w

end Go.Proofs.Ytipcnefiadnlmaa.L01
