/- Chapter 5: a part of its proof (cut by program out of IsaP); no condition. -/
import Derived.Test.YtgbmaajfbbilhaaGreatKn29
set_option linter.unusedVariables false
set_option linter.unusedSimpArgs false
set_option linter.unusedSectionVars false
set_option maxRecDepth 100000
set_option maxHeartbeats 8000000
section
namespace Go.Proofs.YtgbmaajfbbilhaaGreat.Isa
open Go.RowKit Go.Proofs.YtgbmaajfbbilhaaGreat.PAll Go.Proofs.YtgbmaajfbbilhaaGreatW.PrintWords Go.Proofs.YtgbmaajfbbilhaaGreatW.PrintLast Go.Proofs.YtgbmaajfbbilhaaGreatW.PrintMore
abbrev OpT := Int × ByteArray × Bool × Int × Int × Int × Int
def kdN (c : Int) : Int := (entOf c).2.1
def baseN (c : Int) : Int := (entOf c).2.2.1
def widK (k : Int) : Int := if k = 4 then 9 else if k = 1 then 10 else if k = 2 then 12 else if k = 3 then 12 else 0
def loK (k : Int) : Int := if k = 2 then 1024 else 0
def hiK (k : Int) : Int := if k = 4 then 511 else if k = 1 then 1023 else if k = 2 then 4095 else if k = 3 then 4095 else 0
def opN (c : Int) : OpT := (c, (entOf c).1, decide (c > 19), kdN c, widK (kdN c), (entOf c).2.2.2, 0)
def noOp : OpT := (0, (⟨#[]⟩ : ByteArray), false, 0, 0, 0, 7)
def ofN (c : Int) : OpT := if 1 ≤ c ∧ c ≤ 39 then opN c else noOp
def resN (c n : Int) : Bool := (c == 1 && (n == 3 || n == 4 || n == 6)) || (c == 13 && n == 15)
def encN (c n : Int) : Int × Int := if 1 ≤ c ∧ c ≤ 39 then (if loK (kdN c) ≤ n ∧ n ≤ hiK (kdN c) ∧ resN c n = false then (baseN c + n, 0) else (0, 3)) else (0, 7)
def hitP (c w : Int) : Prop := loK (kdN c) ≤ w - baseN c ∧ w - baseN c ≤ hiK (kdN c) ∧ resN c (w - baseN c) = false
def decB (w : Int) : Int := if w = 3 then 4 else if w = 4 then 3 else if w = 6 then 2 else if w = 20495 then 14 else if w < 4096 then 1 else if w < 5120 then 5 else if w < 8192 then 6 else if w < 9216 then 7 else if w < 10240 then 8 else if w < 11264 then 9 else if w < 12288 then 10 else if w < 16384 then 11 else if w < 20480 then 12 else if w < 21504 then 13 else if w < 22528 then 15 else if w < 23552 then 16 else if w < 24576 then 17 else if w < 28672 then 18 else 19
def decX (w : Int) : Int := if w < 512 then 20 else if w < 1024 then 21 else if w < 1536 then 22 else if w < 2048 then 23 else if w < 2560 then 24 else if w < 3072 then 25 else if w < 3584 then 26 else if w < 4096 then 27 else if w < 5120 then 28 else if w < 8192 then 29 else if w < 9216 then 30 else if w < 10240 then 31 else if w < 11264 then 32 else if w < 12288 then 33 else if w < 16384 then 34 else if w < 20480 then 35 else if w < 24576 then 36 else if w < 25600 then 37 else if w < 28672 then 38 else 39
def decN (w : Int) (x : Bool) : Int := if x = true then decX w else decB w
theorem w64 {n : Int} (h0 : -9223372036854775808 ≤ n) (h1 : n ≤ 9223372036854775807) : wrap64 n = n := by unfold wrap64; omega
theorem u16w {n : Int} (h0 : 0 ≤ n) (h1 : n < 65536) : IntKind.u16.wrap n = n := by rw [IntKind.wrap_u16]; omega
theorem codes {c : Int} (h0 : 1 ≤ c) (h1 : c ≤ 39) : c = 1 ∨ c = 2 ∨ c = 3 ∨ c = 4 ∨ c = 5 ∨ c = 6 ∨ c = 7 ∨ c = 8 ∨ c = 9 ∨ c = 10 ∨ c = 11 ∨ c = 12 ∨ c = 13 ∨ c = 14 ∨ c = 15 ∨ c = 16 ∨ c = 17 ∨ c = 18 ∨ c = 19 ∨ c = 20 ∨ c = 21 ∨ c = 22 ∨ c = 23 ∨ c = 24 ∨ c = 25 ∨ c = 26 ∨ c = 27 ∨ c = 28 ∨ c = 29 ∨ c = 30 ∨ c = 31 ∨ c = 32 ∨ c = 33 ∨ c = 34 ∨ c = 35 ∨ c = 36 ∨ c = 37 ∨ c = 38 ∨ c = 39 := by omega
theorem all_codes {p : Int → Prop} (h : ∀ n : Nat, n < 39 → p ((n : Int) + 1)) {c : Int} (h0 : 1 ≤ c) (h1 : c ≤ 39) : p c := by
 have := h (c - 1).toNat (by omega)
 rwa [show (((c - 1).toNat : Nat) : Int) + 1 = c by omega] at this
theorem all_bool {f : Int → Bool} (h : (List.range 39).all (fun n => f ((n : Int) + 1)) = true) {c : Int} (h0 : 1 ≤ c) (h1 : c ≤ 39) : f c = true :=
 all_codes (p := fun c => f c = true) (fun n hn => List.all_eq_true.1 h n (List.mem_range.2 hn)) h0 h1
theorem tb_1 : loK (kdN 1) = 0 ∧ hiK (kdN 1) = 4095 ∧ baseN 1 = 0 := ⟨by kernel_rfl, by kernel_rfl, by kernel_rfl⟩
theorem tb_2 : loK (kdN 2) = 0 ∧ hiK (kdN 2) = 0 ∧ baseN 2 = 6 := ⟨by kernel_rfl, by kernel_rfl, by kernel_rfl⟩
theorem tb_3 : loK (kdN 3) = 0 ∧ hiK (kdN 3) = 0 ∧ baseN 3 = 4 := ⟨by kernel_rfl, by kernel_rfl, by kernel_rfl⟩
theorem tb_4 : loK (kdN 4) = 0 ∧ hiK (kdN 4) = 0 ∧ baseN 4 = 3 := ⟨by kernel_rfl, by kernel_rfl, by kernel_rfl⟩
theorem tb_5 : loK (kdN 5) = 0 ∧ hiK (kdN 5) = 1023 ∧ baseN 5 = 4096 := ⟨by kernel_rfl, by kernel_rfl, by kernel_rfl⟩
theorem tb_6 : loK (kdN 6) = 1024 ∧ hiK (kdN 6) = 4095 ∧ baseN 6 = 4096 := ⟨by kernel_rfl, by kernel_rfl, by kernel_rfl⟩
theorem tb_7 : loK (kdN 7) = 0 ∧ hiK (kdN 7) = 1023 ∧ baseN 7 = 8192 := ⟨by kernel_rfl, by kernel_rfl, by kernel_rfl⟩
theorem tb_8 : loK (kdN 8) = 0 ∧ hiK (kdN 8) = 1023 ∧ baseN 8 = 9216 := ⟨by kernel_rfl, by kernel_rfl, by kernel_rfl⟩
theorem tb_9 : loK (kdN 9) = 0 ∧ hiK (kdN 9) = 1023 ∧ baseN 9 = 10240 := ⟨by kernel_rfl, by kernel_rfl, by kernel_rfl⟩
theorem tb_10 : loK (kdN 10) = 0 ∧ hiK (kdN 10) = 1023 ∧ baseN 10 = 11264 := ⟨by kernel_rfl, by kernel_rfl, by kernel_rfl⟩
theorem tb_11 : loK (kdN 11) = 0 ∧ hiK (kdN 11) = 4095 ∧ baseN 11 = 12288 := ⟨by kernel_rfl, by kernel_rfl, by kernel_rfl⟩
theorem tb_12 : loK (kdN 12) = 0 ∧ hiK (kdN 12) = 4095 ∧ baseN 12 = 16384 := ⟨by kernel_rfl, by kernel_rfl, by kernel_rfl⟩
theorem tb_13 : loK (kdN 13) = 0 ∧ hiK (kdN 13) = 1023 ∧ baseN 13 = 20480 := ⟨by kernel_rfl, by kernel_rfl, by kernel_rfl⟩
theorem tb_14 : loK (kdN 14) = 0 ∧ hiK (kdN 14) = 0 ∧ baseN 14 = 20495 := ⟨by kernel_rfl, by kernel_rfl, by kernel_rfl⟩
theorem tb_15 : loK (kdN 15) = 0 ∧ hiK (kdN 15) = 1023 ∧ baseN 15 = 21504 := ⟨by kernel_rfl, by kernel_rfl, by kernel_rfl⟩
theorem tb_16 : loK (kdN 16) = 0 ∧ hiK (kdN 16) = 1023 ∧ baseN 16 = 22528 := ⟨by kernel_rfl, by kernel_rfl, by kernel_rfl⟩
theorem tb_17 : loK (kdN 17) = 0 ∧ hiK (kdN 17) = 1023 ∧ baseN 17 = 23552 := ⟨by kernel_rfl, by kernel_rfl, by kernel_rfl⟩
theorem tb_18 : loK (kdN 18) = 0 ∧ hiK (kdN 18) = 4095 ∧ baseN 18 = 24576 := ⟨by kernel_rfl, by kernel_rfl, by kernel_rfl⟩
theorem tb_19 : loK (kdN 19) = 0 ∧ hiK (kdN 19) = 4095 ∧ baseN 19 = 28672 := ⟨by kernel_rfl, by kernel_rfl, by kernel_rfl⟩
theorem tb_20 : loK (kdN 20) = 0 ∧ hiK (kdN 20) = 511 ∧ baseN 20 = 0 := ⟨by kernel_rfl, by kernel_rfl, by kernel_rfl⟩
theorem tb_21 : loK (kdN 21) = 0 ∧ hiK (kdN 21) = 511 ∧ baseN 21 = 512 := ⟨by kernel_rfl, by kernel_rfl, by kernel_rfl⟩
theorem tb_22 : loK (kdN 22) = 0 ∧ hiK (kdN 22) = 511 ∧ baseN 22 = 1024 := ⟨by kernel_rfl, by kernel_rfl, by kernel_rfl⟩
theorem tb_23 : loK (kdN 23) = 0 ∧ hiK (kdN 23) = 511 ∧ baseN 23 = 1536 := ⟨by kernel_rfl, by kernel_rfl, by kernel_rfl⟩
theorem tb_24 : loK (kdN 24) = 0 ∧ hiK (kdN 24) = 511 ∧ baseN 24 = 2048 := ⟨by kernel_rfl, by kernel_rfl, by kernel_rfl⟩
theorem tb_25 : loK (kdN 25) = 0 ∧ hiK (kdN 25) = 511 ∧ baseN 25 = 2560 := ⟨by kernel_rfl, by kernel_rfl, by kernel_rfl⟩
theorem tb_26 : loK (kdN 26) = 0 ∧ hiK (kdN 26) = 511 ∧ baseN 26 = 3072 := ⟨by kernel_rfl, by kernel_rfl, by kernel_rfl⟩
theorem tb_27 : loK (kdN 27) = 0 ∧ hiK (kdN 27) = 511 ∧ baseN 27 = 3584 := ⟨by kernel_rfl, by kernel_rfl, by kernel_rfl⟩
theorem tb_28 : loK (kdN 28) = 0 ∧ hiK (kdN 28) = 1023 ∧ baseN 28 = 4096 := ⟨by kernel_rfl, by kernel_rfl, by kernel_rfl⟩
theorem tb_29 : loK (kdN 29) = 1024 ∧ hiK (kdN 29) = 4095 ∧ baseN 29 = 4096 := ⟨by kernel_rfl, by kernel_rfl, by kernel_rfl⟩
theorem tb_30 : loK (kdN 30) = 0 ∧ hiK (kdN 30) = 1023 ∧ baseN 30 = 8192 := ⟨by kernel_rfl, by kernel_rfl, by kernel_rfl⟩
theorem tb_31 : loK (kdN 31) = 0 ∧ hiK (kdN 31) = 1023 ∧ baseN 31 = 9216 := ⟨by kernel_rfl, by kernel_rfl, by kernel_rfl⟩
theorem tb_32 : loK (kdN 32) = 0 ∧ hiK (kdN 32) = 1023 ∧ baseN 32 = 10240 := ⟨by kernel_rfl, by kernel_rfl, by kernel_rfl⟩
theorem tb_33 : loK (kdN 33) = 0 ∧ hiK (kdN 33) = 1023 ∧ baseN 33 = 11264 := ⟨by kernel_rfl, by kernel_rfl, by kernel_rfl⟩
theorem tb_34 : loK (kdN 34) = 0 ∧ hiK (kdN 34) = 4095 ∧ baseN 34 = 12288 := ⟨by kernel_rfl, by kernel_rfl, by kernel_rfl⟩
theorem tb_35 : loK (kdN 35) = 0 ∧ hiK (kdN 35) = 4095 ∧ baseN 35 = 16384 := ⟨by kernel_rfl, by kernel_rfl, by kernel_rfl⟩
theorem tb_36 : loK (kdN 36) = 0 ∧ hiK (kdN 36) = 4095 ∧ baseN 36 = 20480 := ⟨by kernel_rfl, by kernel_rfl, by kernel_rfl⟩
theorem tb_37 : loK (kdN 37) = 0 ∧ hiK (kdN 37) = 1023 ∧ baseN 37 = 24576 := ⟨by kernel_rfl, by kernel_rfl, by kernel_rfl⟩
theorem tb_38 : loK (kdN 38) = 1024 ∧ hiK (kdN 38) = 4095 ∧ baseN 38 = 24576 := ⟨by kernel_rfl, by kernel_rfl, by kernel_rfl⟩
theorem tb_39 : loK (kdN 39) = 0 ∧ hiK (kdN 39) = 4095 ∧ baseN 39 = 28672 := ⟨by kernel_rfl, by kernel_rfl, by kernel_rfl⟩
theorem hd_1 (w : Int) (h0 : 0 ≤ w) (h1 : w ≤ 32767) (h : hitP 1 w) : decB w = 1 := by
 obtain ⟨h2, h4, h3⟩ := h
 rw [tb_1.1, tb_1.2.2] at h2
 rw [tb_1.2.1, tb_1.2.2] at h4
 rw [tb_1.2.2] at h3
 simp [resN] at h3; unfold decB
 rw [if_neg (by omega)]; rw [if_neg (by omega)]; rw [if_neg (by omega)]; rw [if_neg (by omega)]; rw [if_pos (by omega)]
theorem dh_1 (w : Int) (h0 : 0 ≤ w) (h1 : w ≤ 32767) (hl : ¬ w = 3 ∧ ¬ w = 4 ∧ ¬ w = 6 ∧ ¬ w = 20495 ∧ w < 4096) : hitP 1 w := by
 unfold hitP
 rw [tb_1.1, tb_1.2.1, tb_1.2.2]
 refine ⟨by omega, by omega, ?_⟩
 simp [resN]; omega
theorem hd_2 (w : Int) (h0 : 0 ≤ w) (h1 : w ≤ 32767) (h : hitP 2 w) : decB w = 2 := by
 obtain ⟨h2, h4, h3⟩ := h
 rw [tb_2.1, tb_2.2.2] at h2
 rw [tb_2.2.1, tb_2.2.2] at h4
 rw [tb_2.2.2] at h3
 clear h3; unfold decB
 rw [if_neg (by omega)]; rw [if_neg (by omega)]; rw [if_pos (by omega)]
theorem dh_2 (w : Int) (h0 : 0 ≤ w) (h1 : w ≤ 32767) (hl : ¬ w = 3 ∧ ¬ w = 4 ∧ w = 6) : hitP 2 w := by
 unfold hitP
 rw [tb_2.1, tb_2.2.1, tb_2.2.2]
 refine ⟨by omega, by omega, ?_⟩
 simp [resN]
theorem hd_3 (w : Int) (h0 : 0 ≤ w) (h1 : w ≤ 32767) (h : hitP 3 w) : decB w = 3 := by
 obtain ⟨h2, h4, h3⟩ := h
 rw [tb_3.1, tb_3.2.2] at h2
 rw [tb_3.2.1, tb_3.2.2] at h4
 rw [tb_3.2.2] at h3
 clear h3; unfold decB
 rw [if_neg (by omega)]; rw [if_pos (by omega)]
theorem dh_3 (w : Int) (h0 : 0 ≤ w) (h1 : w ≤ 32767) (hl : ¬ w = 3 ∧ w = 4) : hitP 3 w := by
 unfold hitP
 rw [tb_3.1, tb_3.2.1, tb_3.2.2]
 refine ⟨by omega, by omega, ?_⟩
 simp [resN]
theorem hd_4 (w : Int) (h0 : 0 ≤ w) (h1 : w ≤ 32767) (h : hitP 4 w) : decB w = 4 := by
 obtain ⟨h2, h4, h3⟩ := h
 rw [tb_4.1, tb_4.2.2] at h2
 rw [tb_4.2.1, tb_4.2.2] at h4
 rw [tb_4.2.2] at h3
 clear h3; unfold decB
 rw [if_pos (by omega)]
theorem dh_4 (w : Int) (h0 : 0 ≤ w) (h1 : w ≤ 32767) (hl : w = 3) : hitP 4 w := by
 unfold hitP
 rw [tb_4.1, tb_4.2.1, tb_4.2.2]
 refine ⟨by omega, by omega, ?_⟩
 simp [resN]
theorem hd_5 (w : Int) (h0 : 0 ≤ w) (h1 : w ≤ 32767) (h : hitP 5 w) : decB w = 5 := by
 obtain ⟨h2, h4, h3⟩ := h
 rw [tb_5.1, tb_5.2.2] at h2
 rw [tb_5.2.1, tb_5.2.2] at h4
 rw [tb_5.2.2] at h3
 clear h3; unfold decB
 rw [if_neg (by omega)]; rw [if_neg (by omega)]; rw [if_neg (by omega)]; rw [if_neg (by omega)]; rw [if_neg (by omega)]; rw [if_pos (by omega)]
theorem dh_5 (w : Int) (h0 : 0 ≤ w) (h1 : w ≤ 32767) (hl : ¬ w = 3 ∧ ¬ w = 4 ∧ ¬ w = 6 ∧ ¬ w = 20495 ∧ ¬ w < 4096 ∧ w < 5120) : hitP 5 w := by
 unfold hitP
 rw [tb_5.1, tb_5.2.1, tb_5.2.2]
 refine ⟨by omega, by omega, ?_⟩
 simp [resN]
theorem hd_6 (w : Int) (h0 : 0 ≤ w) (h1 : w ≤ 32767) (h : hitP 6 w) : decB w = 6 := by
 obtain ⟨h2, h4, h3⟩ := h
 rw [tb_6.1, tb_6.2.2] at h2
 rw [tb_6.2.1, tb_6.2.2] at h4
 rw [tb_6.2.2] at h3
 clear h3; unfold decB
 rw [if_neg (by omega)]; rw [if_neg (by omega)]; rw [if_neg (by omega)]; rw [if_neg (by omega)]; rw [if_neg (by omega)]; rw [if_neg (by omega)]; rw [if_pos (by omega)]
theorem dh_6 (w : Int) (h0 : 0 ≤ w) (h1 : w ≤ 32767) (hl : ¬ w = 3 ∧ ¬ w = 4 ∧ ¬ w = 6 ∧ ¬ w = 20495 ∧ ¬ w < 4096 ∧ ¬ w < 5120 ∧ w < 8192) : hitP 6 w := by
 unfold hitP
 rw [tb_6.1, tb_6.2.1, tb_6.2.2]
 refine ⟨by omega, by omega, ?_⟩
 simp [resN]
theorem hd_7 (w : Int) (h0 : 0 ≤ w) (h1 : w ≤ 32767) (h : hitP 7 w) : decB w = 7 := by
 obtain ⟨h2, h4, h3⟩ := h
 rw [tb_7.1, tb_7.2.2] at h2
 rw [tb_7.2.1, tb_7.2.2] at h4
 rw [tb_7.2.2] at h3
 clear h3; unfold decB
 rw [if_neg (by omega)]; rw [if_neg (by omega)]; rw [if_neg (by omega)]; rw [if_neg (by omega)]; rw [if_neg (by omega)]; rw [if_neg (by omega)]; rw [if_neg (by omega)]; rw [if_pos (by omega)]
theorem dh_7 (w : Int) (h0 : 0 ≤ w) (h1 : w ≤ 32767) (hl : ¬ w = 3 ∧ ¬ w = 4 ∧ ¬ w = 6 ∧ ¬ w = 20495 ∧ ¬ w < 4096 ∧ ¬ w < 5120 ∧ ¬ w < 8192 ∧ w < 9216) : hitP 7 w := by
 unfold hitP
 rw [tb_7.1, tb_7.2.1, tb_7.2.2]
 refine ⟨by omega, by omega, ?_⟩
 simp [resN]
theorem hd_8 (w : Int) (h0 : 0 ≤ w) (h1 : w ≤ 32767) (h : hitP 8 w) : decB w = 8 := by
 obtain ⟨h2, h4, h3⟩ := h
 rw [tb_8.1, tb_8.2.2] at h2
 rw [tb_8.2.1, tb_8.2.2] at h4
 rw [tb_8.2.2] at h3
 clear h3; unfold decB
 rw [if_neg (by omega)]; rw [if_neg (by omega)]; rw [if_neg (by omega)]; rw [if_neg (by omega)]; rw [if_neg (by omega)]; rw [if_neg (by omega)]; rw [if_neg (by omega)]; rw [if_neg (by omega)]; rw [if_pos (by omega)]
theorem dh_8 (w : Int) (h0 : 0 ≤ w) (h1 : w ≤ 32767) (hl : ¬ w = 3 ∧ ¬ w = 4 ∧ ¬ w = 6 ∧ ¬ w = 20495 ∧ ¬ w < 4096 ∧ ¬ w < 5120 ∧ ¬ w < 8192 ∧ ¬ w < 9216 ∧ w < 10240) : hitP 8 w := by
 unfold hitP
 rw [tb_8.1, tb_8.2.1, tb_8.2.2]
 refine ⟨by omega, by omega, ?_⟩
 simp [resN]
theorem hd_9 (w : Int) (h0 : 0 ≤ w) (h1 : w ≤ 32767) (h : hitP 9 w) : decB w = 9 := by
 obtain ⟨h2, h4, h3⟩ := h
 rw [tb_9.1, tb_9.2.2] at h2
 rw [tb_9.2.1, tb_9.2.2] at h4
 rw [tb_9.2.2] at h3
 clear h3; unfold decB
 rw [if_neg (by omega)]; rw [if_neg (by omega)]; rw [if_neg (by omega)]; rw [if_neg (by omega)]; rw [if_neg (by omega)]; rw [if_neg (by omega)]; rw [if_neg (by omega)]; rw [if_neg (by omega)]; rw [if_neg (by omega)]; rw [if_pos (by omega)]
theorem dh_9 (w : Int) (h0 : 0 ≤ w) (h1 : w ≤ 32767) (hl : ¬ w = 3 ∧ ¬ w = 4 ∧ ¬ w = 6 ∧ ¬ w = 20495 ∧ ¬ w < 4096 ∧ ¬ w < 5120 ∧ ¬ w < 8192 ∧ ¬ w < 9216 ∧ ¬ w < 10240 ∧ w < 11264) : hitP 9 w := by
 unfold hitP
 rw [tb_9.1, tb_9.2.1, tb_9.2.2]
 refine ⟨by omega, by omega, ?_⟩
 simp [resN]
theorem hd_10 (w : Int) (h0 : 0 ≤ w) (h1 : w ≤ 32767) (h : hitP 10 w) : decB w = 10 := by
 obtain ⟨h2, h4, h3⟩ := h
 rw [tb_10.1, tb_10.2.2] at h2
 rw [tb_10.2.1, tb_10.2.2] at h4
 rw [tb_10.2.2] at h3
 clear h3; unfold decB
 rw [if_neg (by omega)]; rw [if_neg (by omega)]; rw [if_neg (by omega)]; rw [if_neg (by omega)]; rw [if_neg (by omega)]; rw [if_neg (by omega)]; rw [if_neg (by omega)]; rw [if_neg (by omega)]; rw [if_neg (by omega)]; rw [if_neg (by omega)]; rw [if_pos (by omega)]
theorem dh_10 (w : Int) (h0 : 0 ≤ w) (h1 : w ≤ 32767) (hl : ¬ w = 3 ∧ ¬ w = 4 ∧ ¬ w = 6 ∧ ¬ w = 20495 ∧ ¬ w < 4096 ∧ ¬ w < 5120 ∧ ¬ w < 8192 ∧ ¬ w < 9216 ∧ ¬ w < 10240 ∧ ¬ w < 11264 ∧ w < 12288) : hitP 10 w := by
 unfold hitP
 rw [tb_10.1, tb_10.2.1, tb_10.2.2]
 refine ⟨by omega, by omega, ?_⟩
 simp [resN]
theorem hd_11 (w : Int) (h0 : 0 ≤ w) (h1 : w ≤ 32767) (h : hitP 11 w) : decB w = 11 := by
 obtain ⟨h2, h4, h3⟩ := h
 rw [tb_11.1, tb_11.2.2] at h2
 rw [tb_11.2.1, tb_11.2.2] at h4
 rw [tb_11.2.2] at h3
 clear h3; unfold decB
 rw [if_neg (by omega)]; rw [if_neg (by omega)]; rw [if_neg (by omega)]; rw [if_neg (by omega)]; rw [if_neg (by omega)]; rw [if_neg (by omega)]; rw [if_neg (by omega)]; rw [if_neg (by omega)]; rw [if_neg (by omega)]; rw [if_neg (by omega)]; rw [if_neg (by omega)]; rw [if_pos (by omega)]
theorem dh_11 (w : Int) (h0 : 0 ≤ w) (h1 : w ≤ 32767) (hl : ¬ w = 3 ∧ ¬ w = 4 ∧ ¬ w = 6 ∧ ¬ w = 20495 ∧ ¬ w < 4096 ∧ ¬ w < 5120 ∧ ¬ w < 8192 ∧ ¬ w < 9216 ∧ ¬ w < 10240 ∧ ¬ w < 11264 ∧ ¬ w < 12288 ∧ w < 16384) : hitP 11 w := by
 unfold hitP
 rw [tb_11.1, tb_11.2.1, tb_11.2.2]
 refine ⟨by omega, by omega, ?_⟩
 simp [resN]
theorem hd_12 (w : Int) (h0 : 0 ≤ w) (h1 : w ≤ 32767) (h : hitP 12 w) : decB w = 12 := by
 obtain ⟨h2, h4, h3⟩ := h
 rw [tb_12.1, tb_12.2.2] at h2
 rw [tb_12.2.1, tb_12.2.2] at h4
 rw [tb_12.2.2] at h3
 clear h3; unfold decB
 rw [if_neg (by omega)]; rw [if_neg (by omega)]; rw [if_neg (by omega)]; rw [if_neg (by omega)]; rw [if_neg (by omega)]; rw [if_neg (by omega)]; rw [if_neg (by omega)]; rw [if_neg (by omega)]; rw [if_neg (by omega)]; rw [if_neg (by omega)]; rw [if_neg (by omega)]; rw [if_neg (by omega)]; rw [if_pos (by omega)]
theorem dh_12 (w : Int) (h0 : 0 ≤ w) (h1 : w ≤ 32767) (hl : ¬ w = 3 ∧ ¬ w = 4 ∧ ¬ w = 6 ∧ ¬ w = 20495 ∧ ¬ w < 4096 ∧ ¬ w < 5120 ∧ ¬ w < 8192 ∧ ¬ w < 9216 ∧ ¬ w < 10240 ∧ ¬ w < 11264 ∧ ¬ w < 12288 ∧ ¬ w < 16384 ∧ w < 20480) : hitP 12 w := by
 unfold hitP
 rw [tb_12.1, tb_12.2.1, tb_12.2.2]
 refine ⟨by omega, by omega, ?_⟩
 simp [resN]
theorem hd_13 (w : Int) (h0 : 0 ≤ w) (h1 : w ≤ 32767) (h : hitP 13 w) : decB w = 13 := by
 obtain ⟨h2, h4, h3⟩ := h
 rw [tb_13.1, tb_13.2.2] at h2
 rw [tb_13.2.1, tb_13.2.2] at h4
 rw [tb_13.2.2] at h3
 simp [resN] at h3; unfold decB
 rw [if_neg (by omega)]; rw [if_neg (by omega)]; rw [if_neg (by omega)]; rw [if_neg (by omega)]; rw [if_neg (by omega)]; rw [if_neg (by omega)]; rw [if_neg (by omega)]; rw [if_neg (by omega)]; rw [if_neg (by omega)]; rw [if_neg (by omega)]; rw [if_neg (by omega)]; rw [if_neg (by omega)]; rw [if_neg (by omega)]; rw [if_pos (by omega)]
theorem dh_13 (w : Int) (h0 : 0 ≤ w) (h1 : w ≤ 32767) (hl : ¬ w = 3 ∧ ¬ w = 4 ∧ ¬ w = 6 ∧ ¬ w = 20495 ∧ ¬ w < 4096 ∧ ¬ w < 5120 ∧ ¬ w < 8192 ∧ ¬ w < 9216 ∧ ¬ w < 10240 ∧ ¬ w < 11264 ∧ ¬ w < 12288 ∧ ¬ w < 16384 ∧ ¬ w < 20480 ∧ w < 21504) : hitP 13 w := by
 unfold hitP
 rw [tb_13.1, tb_13.2.1, tb_13.2.2]
 refine ⟨by omega, by omega, ?_⟩
 simp [resN]; omega
theorem hd_14 (w : Int) (h0 : 0 ≤ w) (h1 : w ≤ 32767) (h : hitP 14 w) : decB w = 14 := by
 obtain ⟨h2, h4, h3⟩ := h
 rw [tb_14.1, tb_14.2.2] at h2
 rw [tb_14.2.1, tb_14.2.2] at h4
 rw [tb_14.2.2] at h3
 clear h3; unfold decB
 rw [if_neg (by omega)]; rw [if_neg (by omega)]; rw [if_neg (by omega)]; rw [if_pos (by omega)]
theorem dh_14 (w : Int) (h0 : 0 ≤ w) (h1 : w ≤ 32767) (hl : ¬ w = 3 ∧ ¬ w = 4 ∧ ¬ w = 6 ∧ w = 20495) : hitP 14 w := by
 unfold hitP
 rw [tb_14.1, tb_14.2.1, tb_14.2.2]
 refine ⟨by omega, by omega, ?_⟩
 simp [resN]
theorem hd_15 (w : Int) (h0 : 0 ≤ w) (h1 : w ≤ 32767) (h : hitP 15 w) : decB w = 15 := by
 obtain ⟨h2, h4, h3⟩ := h
 rw [tb_15.1, tb_15.2.2] at h2
 rw [tb_15.2.1, tb_15.2.2] at h4
 rw [tb_15.2.2] at h3
 clear h3; unfold decB
 rw [if_neg (by omega)]; rw [if_neg (by omega)]; rw [if_neg (by omega)]; rw [if_neg (by omega)]; rw [if_neg (by omega)]; rw [if_neg (by omega)]; rw [if_neg (by omega)]; rw [if_neg (by omega)]; rw [if_neg (by omega)]; rw [if_neg (by omega)]; rw [if_neg (by omega)]; rw [if_neg (by omega)]; rw [if_neg (by omega)]; rw [if_neg (by omega)]; rw [if_pos (by omega)]
theorem dh_15 (w : Int) (h0 : 0 ≤ w) (h1 : w ≤ 32767) (hl : ¬ w = 3 ∧ ¬ w = 4 ∧ ¬ w = 6 ∧ ¬ w = 20495 ∧ ¬ w < 4096 ∧ ¬ w < 5120 ∧ ¬ w < 8192 ∧ ¬ w < 9216 ∧ ¬ w < 10240 ∧ ¬ w < 11264 ∧ ¬ w < 12288 ∧ ¬ w < 16384 ∧ ¬ w < 20480 ∧ ¬ w < 21504 ∧ w < 22528) : hitP 15 w := by
 unfold hitP
 rw [tb_15.1, tb_15.2.1, tb_15.2.2]
 refine ⟨by omega, by omega, ?_⟩
 simp [resN]
theorem hd_16 (w : Int) (h0 : 0 ≤ w) (h1 : w ≤ 32767) (h : hitP 16 w) : decB w = 16 := by
 obtain ⟨h2, h4, h3⟩ := h
 rw [tb_16.1, tb_16.2.2] at h2
 rw [tb_16.2.1, tb_16.2.2] at h4
 rw [tb_16.2.2] at h3
 clear h3; unfold decB
 rw [if_neg (by omega)]; rw [if_neg (by omega)]; rw [if_neg (by omega)]; rw [if_neg (by omega)]; rw [if_neg (by omega)]; rw [if_neg (by omega)]; rw [if_neg (by omega)]; rw [if_neg (by omega)]; rw [if_neg (by omega)]; rw [if_neg (by omega)]; rw [if_neg (by omega)]; rw [if_neg (by omega)]; rw [if_neg (by omega)]; rw [if_neg (by omega)]; rw [if_neg (by omega)]; rw [if_pos (by omega)]
theorem dh_16 (w : Int) (h0 : 0 ≤ w) (h1 : w ≤ 32767) (hl : ¬ w = 3 ∧ ¬ w = 4 ∧ ¬ w = 6 ∧ ¬ w = 20495 ∧ ¬ w < 4096 ∧ ¬ w < 5120 ∧ ¬ w < 8192 ∧ ¬ w < 9216 ∧ ¬ w < 10240 ∧ ¬ w < 11264 ∧ ¬ w < 12288 ∧ ¬ w < 16384 ∧ ¬ w < 20480 ∧ ¬ w < 21504 ∧ ¬ w < 22528 ∧ w < 23552) : hitP 16 w := by
 unfold hitP
 rw [tb_16.1, tb_16.2.1, tb_16.2.2]
 refine ⟨by omega, by omega, ?_⟩
 simp [resN]
theorem hd_17 (w : Int) (h0 : 0 ≤ w) (h1 : w ≤ 32767) (h : hitP 17 w) : decB w = 17 := by
 obtain ⟨h2, h4, h3⟩ := h
 rw [tb_17.1, tb_17.2.2] at h2
 rw [tb_17.2.1, tb_17.2.2] at h4
 rw [tb_17.2.2] at h3
 clear h3; unfold decB
 rw [if_neg (by omega)]; rw [if_neg (by omega)]; rw [if_neg (by omega)]; rw [if_neg (by omega)]; rw [if_neg (by omega)]; rw [if_neg (by omega)]; rw [if_neg (by omega)]; rw [if_neg (by omega)]; rw [if_neg (by omega)]; rw [if_neg (by omega)]; rw [if_neg (by omega)]; rw [if_neg (by omega)]; rw [if_neg (by omega)]; rw [if_neg (by omega)]; rw [if_neg (by omega)]; rw [if_neg (by omega)]; rw [if_pos (by omega)]
theorem dh_17 (w : Int) (h0 : 0 ≤ w) (h1 : w ≤ 32767) (hl : ¬ w = 3 ∧ ¬ w = 4 ∧ ¬ w = 6 ∧ ¬ w = 20495 ∧ ¬ w < 4096 ∧ ¬ w < 5120 ∧ ¬ w < 8192 ∧ ¬ w < 9216 ∧ ¬ w < 10240 ∧ ¬ w < 11264 ∧ ¬ w < 12288 ∧ ¬ w < 16384 ∧ ¬ w < 20480 ∧ ¬ w < 21504 ∧ ¬ w < 22528 ∧ ¬ w < 23552 ∧ w < 24576) : hitP 17 w := by
 unfold hitP
 rw [tb_17.1, tb_17.2.1, tb_17.2.2]
 refine ⟨by omega, by omega, ?_⟩
 simp [resN]
theorem hd_18 (w : Int) (h0 : 0 ≤ w) (h1 : w ≤ 32767) (h : hitP 18 w) : decB w = 18 := by
 obtain ⟨h2, h4, h3⟩ := h
 rw [tb_18.1, tb_18.2.2] at h2
 rw [tb_18.2.1, tb_18.2.2] at h4
 rw [tb_18.2.2] at h3
 clear h3; unfold decB
 rw [if_neg (by omega)]; rw [if_neg (by omega)]; rw [if_neg (by omega)]; rw [if_neg (by omega)]; rw [if_neg (by omega)]; rw [if_neg (by omega)]; rw [if_neg (by omega)]; rw [if_neg (by omega)]; rw [if_neg (by omega)]; rw [if_neg (by omega)]; rw [if_neg (by omega)]; rw [if_neg (by omega)]; rw [if_neg (by omega)]; rw [if_neg (by omega)]; rw [if_neg (by omega)]; rw [if_neg (by omega)]; rw [if_neg (by omega)]; rw [if_pos (by omega)]
theorem dh_18 (w : Int) (h0 : 0 ≤ w) (h1 : w ≤ 32767) (hl : ¬ w = 3 ∧ ¬ w = 4 ∧ ¬ w = 6 ∧ ¬ w = 20495 ∧ ¬ w < 4096 ∧ ¬ w < 5120 ∧ ¬ w < 8192 ∧ ¬ w < 9216 ∧ ¬ w < 10240 ∧ ¬ w < 11264 ∧ ¬ w < 12288 ∧ ¬ w < 16384 ∧ ¬ w < 20480 ∧ ¬ w < 21504 ∧ ¬ w < 22528 ∧ ¬ w < 23552 ∧ ¬ w < 24576 ∧ w < 28672) : hitP 18 w := by
 unfold hitP
 rw [tb_18.1, tb_18.2.1, tb_18.2.2]
 refine ⟨by omega, by omega, ?_⟩
 simp [resN]
theorem hd_19 (w : Int) (h0 : 0 ≤ w) (h1 : w ≤ 32767) (h : hitP 19 w) : decB w = 19 := by
 obtain ⟨h2, h4, h3⟩ := h
 rw [tb_19.1, tb_19.2.2] at h2
 rw [tb_19.2.1, tb_19.2.2] at h4
 rw [tb_19.2.2] at h3
 clear h3; unfold decB
 rw [if_neg (by omega)]; rw [if_neg (by omega)]; rw [if_neg (by omega)]; rw [if_neg (by omega)]; rw [if_neg (by omega)]; rw [if_neg (by omega)]; rw [if_neg (by omega)]; rw [if_neg (by omega)]; rw [if_neg (by omega)]; rw [if_neg (by omega)]; rw [if_neg (by omega)]; rw [if_neg (by omega)]; rw [if_neg (by omega)]; rw [if_neg (by omega)]; rw [if_neg (by omega)]; rw [if_neg (by omega)]; rw [if_neg (by omega)]; rw [if_neg (by omega)]
theorem dh_19 (w : Int) (h0 : 0 ≤ w) (h1 : w ≤ 32767) (hl : ¬ w = 3 ∧ ¬ w = 4 ∧ ¬ w = 6 ∧ ¬ w = 20495 ∧ ¬ w < 4096 ∧ ¬ w < 5120 ∧ ¬ w < 8192 ∧ ¬ w < 9216 ∧ ¬ w < 10240 ∧ ¬ w < 11264 ∧ ¬ w < 12288 ∧ ¬ w < 16384 ∧ ¬ w < 20480 ∧ ¬ w < 21504 ∧ ¬ w < 22528 ∧ ¬ w < 23552 ∧ ¬ w < 24576 ∧ ¬ w < 28672) : hitP 19 w := by
 unfold hitP
 rw [tb_19.1, tb_19.2.1, tb_19.2.2]
 refine ⟨by omega, by omega, ?_⟩
 simp [resN]
theorem hd_20 (w : Int) (h0 : 0 ≤ w) (h1 : w ≤ 32767) (h : hitP 20 w) : decX w = 20 := by
 obtain ⟨h2, h4, h3⟩ := h
 rw [tb_20.1, tb_20.2.2] at h2
 rw [tb_20.2.1, tb_20.2.2] at h4
 rw [tb_20.2.2] at h3
 clear h3; unfold decX
 rw [if_pos (by omega)]
theorem dh_20 (w : Int) (h0 : 0 ≤ w) (h1 : w ≤ 32767) (hl : w < 512) : hitP 20 w := by
 unfold hitP
 rw [tb_20.1, tb_20.2.1, tb_20.2.2]
 refine ⟨by omega, by omega, ?_⟩
 simp [resN]
theorem hd_21 (w : Int) (h0 : 0 ≤ w) (h1 : w ≤ 32767) (h : hitP 21 w) : decX w = 21 := by
 obtain ⟨h2, h4, h3⟩ := h
 rw [tb_21.1, tb_21.2.2] at h2
 rw [tb_21.2.1, tb_21.2.2] at h4
 rw [tb_21.2.2] at h3
 clear h3; unfold decX
 rw [if_neg (by omega)]; rw [if_pos (by omega)]
theorem dh_21 (w : Int) (h0 : 0 ≤ w) (h1 : w ≤ 32767) (hl : ¬ w < 512 ∧ w < 1024) : hitP 21 w := by
 unfold hitP
 rw [tb_21.1, tb_21.2.1, tb_21.2.2]
 refine ⟨by omega, by omega, ?_⟩
 simp [resN]
theorem hd_22 (w : Int) (h0 : 0 ≤ w) (h1 : w ≤ 32767) (h : hitP 22 w) : decX w = 22 := by
 obtain ⟨h2, h4, h3⟩ := h
 rw [tb_22.1, tb_22.2.2] at h2
 rw [tb_22.2.1, tb_22.2.2] at h4
 rw [tb_22.2.2] at h3
 clear h3; unfold decX
 rw [if_neg (by omega)]; rw [if_neg (by omega)]; rw [if_pos (by omega)]
theorem dh_22 (w : Int) (h0 : 0 ≤ w) (h1 : w ≤ 32767) (hl : ¬ w < 512 ∧ ¬ w < 1024 ∧ w < 1536) : hitP 22 w := by
 unfold hitP
 rw [tb_22.1, tb_22.2.1, tb_22.2.2]
 refine ⟨by omega, by omega, ?_⟩
 simp [resN]
theorem hd_23 (w : Int) (h0 : 0 ≤ w) (h1 : w ≤ 32767) (h : hitP 23 w) : decX w = 23 := by
 obtain ⟨h2, h4, h3⟩ := h
 rw [tb_23.1, tb_23.2.2] at h2
 rw [tb_23.2.1, tb_23.2.2] at h4
 rw [tb_23.2.2] at h3
 clear h3; unfold decX
 rw [if_neg (by omega)]; rw [if_neg (by omega)]; rw [if_neg (by omega)]; rw [if_pos (by omega)]
theorem dh_23 (w : Int) (h0 : 0 ≤ w) (h1 : w ≤ 32767) (hl : ¬ w < 512 ∧ ¬ w < 1024 ∧ ¬ w < 1536 ∧ w < 2048) : hitP 23 w := by
 unfold hitP
 rw [tb_23.1, tb_23.2.1, tb_23.2.2]
 refine ⟨by omega, by omega, ?_⟩
 simp [resN]
theorem hd_24 (w : Int) (h0 : 0 ≤ w) (h1 : w ≤ 32767) (h : hitP 24 w) : decX w = 24 := by
 obtain ⟨h2, h4, h3⟩ := h
 rw [tb_24.1, tb_24.2.2] at h2
 rw [tb_24.2.1, tb_24.2.2] at h4
 rw [tb_24.2.2] at h3
 clear h3; unfold decX
 rw [if_neg (by omega)]; rw [if_neg (by omega)]; rw [if_neg (by omega)]; rw [if_neg (by omega)]; rw [if_pos (by omega)]
theorem dh_24 (w : Int) (h0 : 0 ≤ w) (h1 : w ≤ 32767) (hl : ¬ w < 512 ∧ ¬ w < 1024 ∧ ¬ w < 1536 ∧ ¬ w < 2048 ∧ w < 2560) : hitP 24 w := by
 unfold hitP
 rw [tb_24.1, tb_24.2.1, tb_24.2.2]
 refine ⟨by omega, by omega, ?_⟩
 simp [resN]
theorem hd_25 (w : Int) (h0 : 0 ≤ w) (h1 : w ≤ 32767) (h : hitP 25 w) : decX w = 25 := by
 obtain ⟨h2, h4, h3⟩ := h
 rw [tb_25.1, tb_25.2.2] at h2
 rw [tb_25.2.1, tb_25.2.2] at h4
 rw [tb_25.2.2] at h3
 clear h3; unfold decX
 rw [if_neg (by omega)]; rw [if_neg (by omega)]; rw [if_neg (by omega)]; rw [if_neg (by omega)]; rw [if_neg (by omega)]; rw [if_pos (by omega)]
theorem dh_25 (w : Int) (h0 : 0 ≤ w) (h1 : w ≤ 32767) (hl : ¬ w < 512 ∧ ¬ w < 1024 ∧ ¬ w < 1536 ∧ ¬ w < 2048 ∧ ¬ w < 2560 ∧ w < 3072) : hitP 25 w := by
 unfold hitP
 rw [tb_25.1, tb_25.2.1, tb_25.2.2]
 refine ⟨by omega, by omega, ?_⟩
 simp [resN]
theorem hd_26 (w : Int) (h0 : 0 ≤ w) (h1 : w ≤ 32767) (h : hitP 26 w) : decX w = 26 := by
 obtain ⟨h2, h4, h3⟩ := h
 rw [tb_26.1, tb_26.2.2] at h2
 rw [tb_26.2.1, tb_26.2.2] at h4
 rw [tb_26.2.2] at h3
 clear h3; unfold decX
 rw [if_neg (by omega)]; rw [if_neg (by omega)]; rw [if_neg (by omega)]; rw [if_neg (by omega)]; rw [if_neg (by omega)]; rw [if_neg (by omega)]; rw [if_pos (by omega)]
theorem dh_26 (w : Int) (h0 : 0 ≤ w) (h1 : w ≤ 32767) (hl : ¬ w < 512 ∧ ¬ w < 1024 ∧ ¬ w < 1536 ∧ ¬ w < 2048 ∧ ¬ w < 2560 ∧ ¬ w < 3072 ∧ w < 3584) : hitP 26 w := by
 unfold hitP
 rw [tb_26.1, tb_26.2.1, tb_26.2.2]
 refine ⟨by omega, by omega, ?_⟩
 simp [resN]
theorem hd_27 (w : Int) (h0 : 0 ≤ w) (h1 : w ≤ 32767) (h : hitP 27 w) : decX w = 27 := by
 obtain ⟨h2, h4, h3⟩ := h
 rw [tb_27.1, tb_27.2.2] at h2
 rw [tb_27.2.1, tb_27.2.2] at h4
 rw [tb_27.2.2] at h3
 clear h3; unfold decX
 rw [if_neg (by omega)]; rw [if_neg (by omega)]; rw [if_neg (by omega)]; rw [if_neg (by omega)]; rw [if_neg (by omega)]; rw [if_neg (by omega)]; rw [if_neg (by omega)]; rw [if_pos (by omega)]
theorem dh_27 (w : Int) (h0 : 0 ≤ w) (h1 : w ≤ 32767) (hl : ¬ w < 512 ∧ ¬ w < 1024 ∧ ¬ w < 1536 ∧ ¬ w < 2048 ∧ ¬ w < 2560 ∧ ¬ w < 3072 ∧ ¬ w < 3584 ∧ w < 4096) : hitP 27 w := by
 unfold hitP
 rw [tb_27.1, tb_27.2.1, tb_27.2.2]
 refine ⟨by omega, by omega, ?_⟩
 simp [resN]
theorem hd_28 (w : Int) (h0 : 0 ≤ w) (h1 : w ≤ 32767) (h : hitP 28 w) : decX w = 28 := by
 obtain ⟨h2, h4, h3⟩ := h
 rw [tb_28.1, tb_28.2.2] at h2
 rw [tb_28.2.1, tb_28.2.2] at h4
 rw [tb_28.2.2] at h3
 clear h3; unfold decX
 rw [if_neg (by omega)]; rw [if_neg (by omega)]; rw [if_neg (by omega)]; rw [if_neg (by omega)]; rw [if_neg (by omega)]; rw [if_neg (by omega)]; rw [if_neg (by omega)]; rw [if_neg (by omega)]; rw [if_pos (by omega)]
theorem dh_28 (w : Int) (h0 : 0 ≤ w) (h1 : w ≤ 32767) (hl : ¬ w < 512 ∧ ¬ w < 1024 ∧ ¬ w < 1536 ∧ ¬ w < 2048 ∧ ¬ w < 2560 ∧ ¬ w < 3072 ∧ ¬ w < 3584 ∧ ¬ w < 4096 ∧ w < 5120) : hitP 28 w := by
 unfold hitP
 rw [tb_28.1, tb_28.2.1, tb_28.2.2]
 refine ⟨by omega, by omega, ?_⟩
 simp [resN]
theorem hd_29 (w : Int) (h0 : 0 ≤ w) (h1 : w ≤ 32767) (h : hitP 29 w) : decX w = 29 := by
 obtain ⟨h2, h4, h3⟩ := h
 rw [tb_29.1, tb_29.2.2] at h2
 rw [tb_29.2.1, tb_29.2.2] at h4
 rw [tb_29.2.2] at h3
 clear h3; unfold decX
 rw [if_neg (by omega)]; rw [if_neg (by omega)]; rw [if_neg (by omega)]; rw [if_neg (by omega)]; rw [if_neg (by omega)]; rw [if_neg (by omega)]; rw [if_neg (by omega)]; rw [if_neg (by omega)]; rw [if_neg (by omega)]; rw [if_pos (by omega)]
theorem dh_29 (w : Int) (h0 : 0 ≤ w) (h1 : w ≤ 32767) (hl : ¬ w < 512 ∧ ¬ w < 1024 ∧ ¬ w < 1536 ∧ ¬ w < 2048 ∧ ¬ w < 2560 ∧ ¬ w < 3072 ∧ ¬ w < 3584 ∧ ¬ w < 4096 ∧ ¬ w < 5120 ∧ w < 8192) : hitP 29 w := by
 unfold hitP
 rw [tb_29.1, tb_29.2.1, tb_29.2.2]
 refine ⟨by omega, by omega, ?_⟩
 simp [resN]
theorem hd_30 (w : Int) (h0 : 0 ≤ w) (h1 : w ≤ 32767) (h : hitP 30 w) : decX w = 30 := by
 obtain ⟨h2, h4, h3⟩ := h
 rw [tb_30.1, tb_30.2.2] at h2
 rw [tb_30.2.1, tb_30.2.2] at h4
 rw [tb_30.2.2] at h3
 clear h3; unfold decX
 rw [if_neg (by omega)]; rw [if_neg (by omega)]; rw [if_neg (by omega)]; rw [if_neg (by omega)]; rw [if_neg (by omega)]; rw [if_neg (by omega)]; rw [if_neg (by omega)]; rw [if_neg (by omega)]; rw [if_neg (by omega)]; rw [if_neg (by omega)]; rw [if_pos (by omega)]
theorem dh_30 (w : Int) (h0 : 0 ≤ w) (h1 : w ≤ 32767) (hl : ¬ w < 512 ∧ ¬ w < 1024 ∧ ¬ w < 1536 ∧ ¬ w < 2048 ∧ ¬ w < 2560 ∧ ¬ w < 3072 ∧ ¬ w < 3584 ∧ ¬ w < 4096 ∧ ¬ w < 5120 ∧ ¬ w < 8192 ∧ w < 9216) : hitP 30 w := by
 unfold hitP
 rw [tb_30.1, tb_30.2.1, tb_30.2.2]
 refine ⟨by omega, by omega, ?_⟩
 simp [resN]
theorem hd_31 (w : Int) (h0 : 0 ≤ w) (h1 : w ≤ 32767) (h : hitP 31 w) : decX w = 31 := by
 obtain ⟨h2, h4, h3⟩ := h
 rw [tb_31.1, tb_31.2.2] at h2
 rw [tb_31.2.1, tb_31.2.2] at h4
 rw [tb_31.2.2] at h3
 clear h3; unfold decX
 rw [if_neg (by omega)]; rw [if_neg (by omega)]; rw [if_neg (by omega)]; rw [if_neg (by omega)]; rw [if_neg (by omega)]; rw [if_neg (by omega)]; rw [if_neg (by omega)]; rw [if_neg (by omega)]; rw [if_neg (by omega)]; rw [if_neg (by omega)]; rw [if_neg (by omega)]; rw [if_pos (by omega)]
theorem dh_31 (w : Int) (h0 : 0 ≤ w) (h1 : w ≤ 32767) (hl : ¬ w < 512 ∧ ¬ w < 1024 ∧ ¬ w < 1536 ∧ ¬ w < 2048 ∧ ¬ w < 2560 ∧ ¬ w < 3072 ∧ ¬ w < 3584 ∧ ¬ w < 4096 ∧ ¬ w < 5120 ∧ ¬ w < 8192 ∧ ¬ w < 9216 ∧ w < 10240) : hitP 31 w := by
 unfold hitP
 rw [tb_31.1, tb_31.2.1, tb_31.2.2]
 refine ⟨by omega, by omega, ?_⟩
 simp [resN]
theorem hd_32 (w : Int) (h0 : 0 ≤ w) (h1 : w ≤ 32767) (h : hitP 32 w) : decX w = 32 := by
 obtain ⟨h2, h4, h3⟩ := h
 rw [tb_32.1, tb_32.2.2] at h2
 rw [tb_32.2.1, tb_32.2.2] at h4
 rw [tb_32.2.2] at h3
 clear h3; unfold decX
 rw [if_neg (by omega)]; rw [if_neg (by omega)]; rw [if_neg (by omega)]; rw [if_neg (by omega)]; rw [if_neg (by omega)]; rw [if_neg (by omega)]; rw [if_neg (by omega)]; rw [if_neg (by omega)]; rw [if_neg (by omega)]; rw [if_neg (by omega)]; rw [if_neg (by omega)]; rw [if_neg (by omega)]; rw [if_pos (by omega)]
theorem dh_32 (w : Int) (h0 : 0 ≤ w) (h1 : w ≤ 32767) (hl : ¬ w < 512 ∧ ¬ w < 1024 ∧ ¬ w < 1536 ∧ ¬ w < 2048 ∧ ¬ w < 2560 ∧ ¬ w < 3072 ∧ ¬ w < 3584 ∧ ¬ w < 4096 ∧ ¬ w < 5120 ∧ ¬ w < 8192 ∧ ¬ w < 9216 ∧ ¬ w < 10240 ∧ w < 11264) : hitP 32 w := by
 unfold hitP
 rw [tb_32.1, tb_32.2.1, tb_32.2.2]
 refine ⟨by omega, by omega, ?_⟩
 simp [resN]
theorem hd_33 (w : Int) (h0 : 0 ≤ w) (h1 : w ≤ 32767) (h : hitP 33 w) : decX w = 33 := by
 obtain ⟨h2, h4, h3⟩ := h
 rw [tb_33.1, tb_33.2.2] at h2
 rw [tb_33.2.1, tb_33.2.2] at h4
 rw [tb_33.2.2] at h3
 clear h3; unfold decX
 rw [if_neg (by omega)]; rw [if_neg (by omega)]; rw [if_neg (by omega)]; rw [if_neg (by omega)]; rw [if_neg (by omega)]; rw [if_neg (by omega)]; rw [if_neg (by omega)]; rw [if_neg (by omega)]; rw [if_neg (by omega)]; rw [if_neg (by omega)]; rw [if_neg (by omega)]; rw [if_neg (by omega)]; rw [if_neg (by omega)]; rw [if_pos (by omega)]
theorem dh_33 (w : Int) (h0 : 0 ≤ w) (h1 : w ≤ 32767) (hl : ¬ w < 512 ∧ ¬ w < 1024 ∧ ¬ w < 1536 ∧ ¬ w < 2048 ∧ ¬ w < 2560 ∧ ¬ w < 3072 ∧ ¬ w < 3584 ∧ ¬ w < 4096 ∧ ¬ w < 5120 ∧ ¬ w < 8192 ∧ ¬ w < 9216 ∧ ¬ w < 10240 ∧ ¬ w < 11264 ∧ w < 12288) : hitP 33 w := by
 unfold hitP
 rw [tb_33.1, tb_33.2.1, tb_33.2.2]
 refine ⟨by omega, by omega, ?_⟩
 simp [resN]
theorem hd_34 (w : Int) (h0 : 0 ≤ w) (h1 : w ≤ 32767) (h : hitP 34 w) : decX w = 34 := by
 obtain ⟨h2, h4, h3⟩ := h
 rw [tb_34.1, tb_34.2.2] at h2
 rw [tb_34.2.1, tb_34.2.2] at h4
 rw [tb_34.2.2] at h3
 clear h3; unfold decX
 rw [if_neg (by omega)]; rw [if_neg (by omega)]; rw [if_neg (by omega)]; rw [if_neg (by omega)]; rw [if_neg (by omega)]; rw [if_neg (by omega)]; rw [if_neg (by omega)]; rw [if_neg (by omega)]; rw [if_neg (by omega)]; rw [if_neg (by omega)]; rw [if_neg (by omega)]; rw [if_neg (by omega)]; rw [if_neg (by omega)]; rw [if_neg (by omega)]; rw [if_pos (by omega)]
theorem dh_34 (w : Int) (h0 : 0 ≤ w) (h1 : w ≤ 32767) (hl : ¬ w < 512 ∧ ¬ w < 1024 ∧ ¬ w < 1536 ∧ ¬ w < 2048 ∧ ¬ w < 2560 ∧ ¬ w < 3072 ∧ ¬ w < 3584 ∧ ¬ w < 4096 ∧ ¬ w < 5120 ∧ ¬ w < 8192 ∧ ¬ w < 9216 ∧ ¬ w < 10240 ∧ ¬ w < 11264 ∧ ¬ w < 12288 ∧ w < 16384) : hitP 34 w := by
 unfold hitP
 rw [tb_34.1, tb_34.2.1, tb_34.2.2]
 refine ⟨by omega, by omega, ?_⟩
 simp [resN]
theorem hd_35 (w : Int) (h0 : 0 ≤ w) (h1 : w ≤ 32767) (h : hitP 35 w) : decX w = 35 := by
 obtain ⟨h2, h4, h3⟩ := h
 rw [tb_35.1, tb_35.2.2] at h2
 rw [tb_35.2.1, tb_35.2.2] at h4
 rw [tb_35.2.2] at h3
 clear h3; unfold decX
 rw [if_neg (by omega)]; rw [if_neg (by omega)]; rw [if_neg (by omega)]; rw [if_neg (by omega)]; rw [if_neg (by omega)]; rw [if_neg (by omega)]; rw [if_neg (by omega)]; rw [if_neg (by omega)]; rw [if_neg (by omega)]; rw [if_neg (by omega)]; rw [if_neg (by omega)]; rw [if_neg (by omega)]; rw [if_neg (by omega)]; rw [if_neg (by omega)]; rw [if_neg (by omega)]; rw [if_pos (by omega)]
theorem dh_35 (w : Int) (h0 : 0 ≤ w) (h1 : w ≤ 32767) (hl : ¬ w < 512 ∧ ¬ w < 1024 ∧ ¬ w < 1536 ∧ ¬ w < 2048 ∧ ¬ w < 2560 ∧ ¬ w < 3072 ∧ ¬ w < 3584 ∧ ¬ w < 4096 ∧ ¬ w < 5120 ∧ ¬ w < 8192 ∧ ¬ w < 9216 ∧ ¬ w < 10240 ∧ ¬ w < 11264 ∧ ¬ w < 12288 ∧ ¬ w < 16384 ∧ w < 20480) : hitP 35 w := by
 unfold hitP
 rw [tb_35.1, tb_35.2.1, tb_35.2.2]
 refine ⟨by omega, by omega, ?_⟩
 simp [resN]
theorem hd_36 (w : Int) (h0 : 0 ≤ w) (h1 : w ≤ 32767) (h : hitP 36 w) : decX w = 36 := by
 obtain ⟨h2, h4, h3⟩ := h
 rw [tb_36.1, tb_36.2.2] at h2
 rw [tb_36.2.1, tb_36.2.2] at h4
 rw [tb_36.2.2] at h3
 clear h3; unfold decX
 rw [if_neg (by omega)]; rw [if_neg (by omega)]; rw [if_neg (by omega)]; rw [if_neg (by omega)]; rw [if_neg (by omega)]; rw [if_neg (by omega)]; rw [if_neg (by omega)]; rw [if_neg (by omega)]; rw [if_neg (by omega)]; rw [if_neg (by omega)]; rw [if_neg (by omega)]; rw [if_neg (by omega)]; rw [if_neg (by omega)]; rw [if_neg (by omega)]; rw [if_neg (by omega)]; rw [if_neg (by omega)]; rw [if_pos (by omega)]
theorem dh_36 (w : Int) (h0 : 0 ≤ w) (h1 : w ≤ 32767) (hl : ¬ w < 512 ∧ ¬ w < 1024 ∧ ¬ w < 1536 ∧ ¬ w < 2048 ∧ ¬ w < 2560 ∧ ¬ w < 3072 ∧ ¬ w < 3584 ∧ ¬ w < 4096 ∧ ¬ w < 5120 ∧ ¬ w < 8192 ∧ ¬ w < 9216 ∧ ¬ w < 10240 ∧ ¬ w < 11264 ∧ ¬ w < 12288 ∧ ¬ w < 16384 ∧ ¬ w < 20480 ∧ w < 24576) : hitP 36 w := by
 unfold hitP
 rw [tb_36.1, tb_36.2.1, tb_36.2.2]
 refine ⟨by omega, by omega, ?_⟩
 simp [resN]
theorem hd_37 (w : Int) (h0 : 0 ≤ w) (h1 : w ≤ 32767) (h : hitP 37 w) : decX w = 37 := by
 obtain ⟨h2, h4, h3⟩ := h
 rw [tb_37.1, tb_37.2.2] at h2
 rw [tb_37.2.1, tb_37.2.2] at h4
 rw [tb_37.2.2] at h3
 clear h3; unfold decX
 rw [if_neg (by omega)]; rw [if_neg (by omega)]; rw [if_neg (by omega)]; rw [if_neg (by omega)]; rw [if_neg (by omega)]; rw [if_neg (by omega)]; rw [if_neg (by omega)]; rw [if_neg (by omega)]; rw [if_neg (by omega)]; rw [if_neg (by omega)]; rw [if_neg (by omega)]; rw [if_neg (by omega)]; rw [if_neg (by omega)]; rw [if_neg (by omega)]; rw [if_neg (by omega)]; rw [if_neg (by omega)]; rw [if_neg (by omega)]; rw [if_pos (by omega)]
theorem dh_37 (w : Int) (h0 : 0 ≤ w) (h1 : w ≤ 32767) (hl : ¬ w < 512 ∧ ¬ w < 1024 ∧ ¬ w < 1536 ∧ ¬ w < 2048 ∧ ¬ w < 2560 ∧ ¬ w < 3072 ∧ ¬ w < 3584 ∧ ¬ w < 4096 ∧ ¬ w < 5120 ∧ ¬ w < 8192 ∧ ¬ w < 9216 ∧ ¬ w < 10240 ∧ ¬ w < 11264 ∧ ¬ w < 12288 ∧ ¬ w < 16384 ∧ ¬ w < 20480 ∧ ¬ w < 24576 ∧ w < 25600) : hitP 37 w := by
 unfold hitP
 rw [tb_37.1, tb_37.2.1, tb_37.2.2]
 refine ⟨by omega, by omega, ?_⟩
 simp [resN]
theorem hd_38 (w : Int) (h0 : 0 ≤ w) (h1 : w ≤ 32767) (h : hitP 38 w) : decX w = 38 := by
 obtain ⟨h2, h4, h3⟩ := h
 rw [tb_38.1, tb_38.2.2] at h2
 rw [tb_38.2.1, tb_38.2.2] at h4
 rw [tb_38.2.2] at h3
 clear h3; unfold decX
 rw [if_neg (by omega)]; rw [if_neg (by omega)]; rw [if_neg (by omega)]; rw [if_neg (by omega)]; rw [if_neg (by omega)]; rw [if_neg (by omega)]; rw [if_neg (by omega)]; rw [if_neg (by omega)]; rw [if_neg (by omega)]; rw [if_neg (by omega)]; rw [if_neg (by omega)]; rw [if_neg (by omega)]; rw [if_neg (by omega)]; rw [if_neg (by omega)]; rw [if_neg (by omega)]; rw [if_neg (by omega)]; rw [if_neg (by omega)]; rw [if_neg (by omega)]; rw [if_pos (by omega)]
theorem dh_38 (w : Int) (h0 : 0 ≤ w) (h1 : w ≤ 32767) (hl : ¬ w < 512 ∧ ¬ w < 1024 ∧ ¬ w < 1536 ∧ ¬ w < 2048 ∧ ¬ w < 2560 ∧ ¬ w < 3072 ∧ ¬ w < 3584 ∧ ¬ w < 4096 ∧ ¬ w < 5120 ∧ ¬ w < 8192 ∧ ¬ w < 9216 ∧ ¬ w < 10240 ∧ ¬ w < 11264 ∧ ¬ w < 12288 ∧ ¬ w < 16384 ∧ ¬ w < 20480 ∧ ¬ w < 24576 ∧ ¬ w < 25600 ∧ w < 28672) : hitP 38 w := by
 unfold hitP
 rw [tb_38.1, tb_38.2.1, tb_38.2.2]
 refine ⟨by omega, by omega, ?_⟩
 simp [resN]
theorem hd_39 (w : Int) (h0 : 0 ≤ w) (h1 : w ≤ 32767) (h : hitP 39 w) : decX w = 39 := by
 obtain ⟨h2, h4, h3⟩ := h
 rw [tb_39.1, tb_39.2.2] at h2
 rw [tb_39.2.1, tb_39.2.2] at h4
 rw [tb_39.2.2] at h3
 clear h3; unfold decX
 rw [if_neg (by omega)]; rw [if_neg (by omega)]; rw [if_neg (by omega)]; rw [if_neg (by omega)]; rw [if_neg (by omega)]; rw [if_neg (by omega)]; rw [if_neg (by omega)]; rw [if_neg (by omega)]; rw [if_neg (by omega)]; rw [if_neg (by omega)]; rw [if_neg (by omega)]; rw [if_neg (by omega)]; rw [if_neg (by omega)]; rw [if_neg (by omega)]; rw [if_neg (by omega)]; rw [if_neg (by omega)]; rw [if_neg (by omega)]; rw [if_neg (by omega)]; rw [if_neg (by omega)]
theorem dh_39 (w : Int) (h0 : 0 ≤ w) (h1 : w ≤ 32767) (hl : ¬ w < 512 ∧ ¬ w < 1024 ∧ ¬ w < 1536 ∧ ¬ w < 2048 ∧ ¬ w < 2560 ∧ ¬ w < 3072 ∧ ¬ w < 3584 ∧ ¬ w < 4096 ∧ ¬ w < 5120 ∧ ¬ w < 8192 ∧ ¬ w < 9216 ∧ ¬ w < 10240 ∧ ¬ w < 11264 ∧ ¬ w < 12288 ∧ ¬ w < 16384 ∧ ¬ w < 20480 ∧ ¬ w < 24576 ∧ ¬ w < 25600 ∧ ¬ w < 28672) : hitP 39 w := by
 unfold hitP
 rw [tb_39.1, tb_39.2.1, tb_39.2.2]
 refine ⟨by omega, by omega, ?_⟩
 simp [resN]
theorem decB_hit (w : Int) (h0 : 0 ≤ w) (h1 : w ≤ 32767) : 1 ≤ decB w ∧ decB w ≤ 19 ∧ hitP (decB w) w := by
 by_cases q0 : w = 3
 · have e : decB w = 4 := by unfold decB; rw [if_pos q0]
   rw [e]; exact ⟨by decide, by decide, dh_4 w h0 h1 (by omega)⟩
 by_cases q1 : w = 4
 · have e : decB w = 3 := by unfold decB; rw [if_neg q0]; rw [if_pos q1]
   rw [e]; exact ⟨by decide, by decide, dh_3 w h0 h1 (by omega)⟩
 by_cases q2 : w = 6
 · have e : decB w = 2 := by unfold decB; rw [if_neg q0]; rw [if_neg q1]; rw [if_pos q2]
   rw [e]; exact ⟨by decide, by decide, dh_2 w h0 h1 (by omega)⟩
 by_cases q3 : w = 20495
 · have e : decB w = 14 := by unfold decB; rw [if_neg q0]; rw [if_neg q1]; rw [if_neg q2]; rw [if_pos q3]
   rw [e]; exact ⟨by decide, by decide, dh_14 w h0 h1 (by omega)⟩
 by_cases q4 : w < 4096
 · have e : decB w = 1 := by unfold decB; rw [if_neg q0]; rw [if_neg q1]; rw [if_neg q2]; rw [if_neg q3]; rw [if_pos q4]
   rw [e]; exact ⟨by decide, by decide, dh_1 w h0 h1 (by omega)⟩
 by_cases q5 : w < 5120
 · have e : decB w = 5 := by unfold decB; rw [if_neg q0]; rw [if_neg q1]; rw [if_neg q2]; rw [if_neg q3]; rw [if_neg q4]; rw [if_pos q5]
   rw [e]; exact ⟨by decide, by decide, dh_5 w h0 h1 (by omega)⟩
 by_cases q6 : w < 8192
 · have e : decB w = 6 := by unfold decB; rw [if_neg q0]; rw [if_neg q1]; rw [if_neg q2]; rw [if_neg q3]; rw [if_neg q4]; rw [if_neg q5]; rw [if_pos q6]
   rw [e]; exact ⟨by decide, by decide, dh_6 w h0 h1 (by omega)⟩
 by_cases q7 : w < 9216
 · have e : decB w = 7 := by unfold decB; rw [if_neg q0]; rw [if_neg q1]; rw [if_neg q2]; rw [if_neg q3]; rw [if_neg q4]; rw [if_neg q5]; rw [if_neg q6]; rw [if_pos q7]
   rw [e]; exact ⟨by decide, by decide, dh_7 w h0 h1 (by omega)⟩
 by_cases q8 : w < 10240
 · have e : decB w = 8 := by unfold decB; rw [if_neg q0]; rw [if_neg q1]; rw [if_neg q2]; rw [if_neg q3]; rw [if_neg q4]; rw [if_neg q5]; rw [if_neg q6]; rw [if_neg q7]; rw [if_pos q8]
   rw [e]; exact ⟨by decide, by decide, dh_8 w h0 h1 (by omega)⟩
 by_cases q9 : w < 11264
 · have e : decB w = 9 := by unfold decB; rw [if_neg q0]; rw [if_neg q1]; rw [if_neg q2]; rw [if_neg q3]; rw [if_neg q4]; rw [if_neg q5]; rw [if_neg q6]; rw [if_neg q7]; rw [if_neg q8]; rw [if_pos q9]
   rw [e]; exact ⟨by decide, by decide, dh_9 w h0 h1 (by omega)⟩
 by_cases q10 : w < 12288
 · have e : decB w = 10 := by unfold decB; rw [if_neg q0]; rw [if_neg q1]; rw [if_neg q2]; rw [if_neg q3]; rw [if_neg q4]; rw [if_neg q5]; rw [if_neg q6]; rw [if_neg q7]; rw [if_neg q8]; rw [if_neg q9]; rw [if_pos q10]
   rw [e]; exact ⟨by decide, by decide, dh_10 w h0 h1 (by omega)⟩
 by_cases q11 : w < 16384
 · have e : decB w = 11 := by unfold decB; rw [if_neg q0]; rw [if_neg q1]; rw [if_neg q2]; rw [if_neg q3]; rw [if_neg q4]; rw [if_neg q5]; rw [if_neg q6]; rw [if_neg q7]; rw [if_neg q8]; rw [if_neg q9]; rw [if_neg q10]; rw [if_pos q11]
   rw [e]; exact ⟨by decide, by decide, dh_11 w h0 h1 (by omega)⟩
 by_cases q12 : w < 20480
 · have e : decB w = 12 := by unfold decB; rw [if_neg q0]; rw [if_neg q1]; rw [if_neg q2]; rw [if_neg q3]; rw [if_neg q4]; rw [if_neg q5]; rw [if_neg q6]; rw [if_neg q7]; rw [if_neg q8]; rw [if_neg q9]; rw [if_neg q10]; rw [if_neg q11]; rw [if_pos q12]
   rw [e]; exact ⟨by decide, by decide, dh_12 w h0 h1 (by omega)⟩
 by_cases q13 : w < 21504
 · have e : decB w = 13 := by unfold decB; rw [if_neg q0]; rw [if_neg q1]; rw [if_neg q2]; rw [if_neg q3]; rw [if_neg q4]; rw [if_neg q5]; rw [if_neg q6]; rw [if_neg q7]; rw [if_neg q8]; rw [if_neg q9]; rw [if_neg q10]; rw [if_neg q11]; rw [if_neg q12]; rw [if_pos q13]
   rw [e]; exact ⟨by decide, by decide, dh_13 w h0 h1 (by omega)⟩
 by_cases q14 : w < 22528
 · have e : decB w = 15 := by unfold decB; rw [if_neg q0]; rw [if_neg q1]; rw [if_neg q2]; rw [if_neg q3]; rw [if_neg q4]; rw [if_neg q5]; rw [if_neg q6]; rw [if_neg q7]; rw [if_neg q8]; rw [if_neg q9]; rw [if_neg q10]; rw [if_neg q11]; rw [if_neg q12]; rw [if_neg q13]; rw [if_pos q14]
   rw [e]; exact ⟨by decide, by decide, dh_15 w h0 h1 (by omega)⟩
 by_cases q15 : w < 23552
 · have e : decB w = 16 := by unfold decB; rw [if_neg q0]; rw [if_neg q1]; rw [if_neg q2]; rw [if_neg q3]; rw [if_neg q4]; rw [if_neg q5]; rw [if_neg q6]; rw [if_neg q7]; rw [if_neg q8]; rw [if_neg q9]; rw [if_neg q10]; rw [if_neg q11]; rw [if_neg q12]; rw [if_neg q13]; rw [if_neg q14]; rw [if_pos q15]
   rw [e]; exact ⟨by decide, by decide, dh_16 w h0 h1 (by omega)⟩
 by_cases q16 : w < 24576
 · have e : decB w = 17 := by unfold decB; rw [if_neg q0]; rw [if_neg q1]; rw [if_neg q2]; rw [if_neg q3]; rw [if_neg q4]; rw [if_neg q5]; rw [if_neg q6]; rw [if_neg q7]; rw [if_neg q8]; rw [if_neg q9]; rw [if_neg q10]; rw [if_neg q11]; rw [if_neg q12]; rw [if_neg q13]; rw [if_neg q14]; rw [if_neg q15]; rw [if_pos q16]
   rw [e]; exact ⟨by decide, by decide, dh_17 w h0 h1 (by omega)⟩
 by_cases q17 : w < 28672
 · have e : decB w = 18 := by unfold decB; rw [if_neg q0]; rw [if_neg q1]; rw [if_neg q2]; rw [if_neg q3]; rw [if_neg q4]; rw [if_neg q5]; rw [if_neg q6]; rw [if_neg q7]; rw [if_neg q8]; rw [if_neg q9]; rw [if_neg q10]; rw [if_neg q11]; rw [if_neg q12]; rw [if_neg q13]; rw [if_neg q14]; rw [if_neg q15]; rw [if_neg q16]; rw [if_pos q17]
   rw [e]; exact ⟨by decide, by decide, dh_18 w h0 h1 (by omega)⟩
 have e : decB w = 19 := by unfold decB; rw [if_neg q0]; rw [if_neg q1]; rw [if_neg q2]; rw [if_neg q3]; rw [if_neg q4]; rw [if_neg q5]; rw [if_neg q6]; rw [if_neg q7]; rw [if_neg q8]; rw [if_neg q9]; rw [if_neg q10]; rw [if_neg q11]; rw [if_neg q12]; rw [if_neg q13]; rw [if_neg q14]; rw [if_neg q15]; rw [if_neg q16]; rw [if_neg q17]
 rw [e]; exact ⟨by decide, by decide, dh_19 w h0 h1 (by omega)⟩
theorem decX_hit (w : Int) (h0 : 0 ≤ w) (h1 : w ≤ 32767) : 20 ≤ decX w ∧ decX w ≤ 39 ∧ hitP (decX w) w := by
 by_cases q0 : w < 512
 · have e : decX w = 20 := by unfold decX; rw [if_pos q0]
   rw [e]; exact ⟨by decide, by decide, dh_20 w h0 h1 (by omega)⟩
 by_cases q1 : w < 1024
 · have e : decX w = 21 := by unfold decX; rw [if_neg q0]; rw [if_pos q1]
   rw [e]; exact ⟨by decide, by decide, dh_21 w h0 h1 (by omega)⟩
 by_cases q2 : w < 1536
 · have e : decX w = 22 := by unfold decX; rw [if_neg q0]; rw [if_neg q1]; rw [if_pos q2]
   rw [e]; exact ⟨by decide, by decide, dh_22 w h0 h1 (by omega)⟩
 by_cases q3 : w < 2048
 · have e : decX w = 23 := by unfold decX; rw [if_neg q0]; rw [if_neg q1]; rw [if_neg q2]; rw [if_pos q3]
   rw [e]; exact ⟨by decide, by decide, dh_23 w h0 h1 (by omega)⟩
 by_cases q4 : w < 2560
 · have e : decX w = 24 := by unfold decX; rw [if_neg q0]; rw [if_neg q1]; rw [if_neg q2]; rw [if_neg q3]; rw [if_pos q4]
   rw [e]; exact ⟨by decide, by decide, dh_24 w h0 h1 (by omega)⟩
 by_cases q5 : w < 3072
 · have e : decX w = 25 := by unfold decX; rw [if_neg q0]; rw [if_neg q1]; rw [if_neg q2]; rw [if_neg q3]; rw [if_neg q4]; rw [if_pos q5]
   rw [e]; exact ⟨by decide, by decide, dh_25 w h0 h1 (by omega)⟩
 by_cases q6 : w < 3584
 · have e : decX w = 26 := by unfold decX; rw [if_neg q0]; rw [if_neg q1]; rw [if_neg q2]; rw [if_neg q3]; rw [if_neg q4]; rw [if_neg q5]; rw [if_pos q6]
   rw [e]; exact ⟨by decide, by decide, dh_26 w h0 h1 (by omega)⟩
 by_cases q7 : w < 4096
 · have e : decX w = 27 := by unfold decX; rw [if_neg q0]; rw [if_neg q1]; rw [if_neg q2]; rw [if_neg q3]; rw [if_neg q4]; rw [if_neg q5]; rw [if_neg q6]; rw [if_pos q7]
   rw [e]; exact ⟨by decide, by decide, dh_27 w h0 h1 (by omega)⟩
 by_cases q8 : w < 5120
 · have e : decX w = 28 := by unfold decX; rw [if_neg q0]; rw [if_neg q1]; rw [if_neg q2]; rw [if_neg q3]; rw [if_neg q4]; rw [if_neg q5]; rw [if_neg q6]; rw [if_neg q7]; rw [if_pos q8]
   rw [e]; exact ⟨by decide, by decide, dh_28 w h0 h1 (by omega)⟩
 by_cases q9 : w < 8192
 · have e : decX w = 29 := by unfold decX; rw [if_neg q0]; rw [if_neg q1]; rw [if_neg q2]; rw [if_neg q3]; rw [if_neg q4]; rw [if_neg q5]; rw [if_neg q6]; rw [if_neg q7]; rw [if_neg q8]; rw [if_pos q9]
   rw [e]; exact ⟨by decide, by decide, dh_29 w h0 h1 (by omega)⟩
 by_cases q10 : w < 9216
 · have e : decX w = 30 := by unfold decX; rw [if_neg q0]; rw [if_neg q1]; rw [if_neg q2]; rw [if_neg q3]; rw [if_neg q4]; rw [if_neg q5]; rw [if_neg q6]; rw [if_neg q7]; rw [if_neg q8]; rw [if_neg q9]; rw [if_pos q10]
   rw [e]; exact ⟨by decide, by decide, dh_30 w h0 h1 (by omega)⟩
 by_cases q11 : w < 10240
 · have e : decX w = 31 := by unfold decX; rw [if_neg q0]; rw [if_neg q1]; rw [if_neg q2]; rw [if_neg q3]; rw [if_neg q4]; rw [if_neg q5]; rw [if_neg q6]; rw [if_neg q7]; rw [if_neg q8]; rw [if_neg q9]; rw [if_neg q10]; rw [if_pos q11]
   rw [e]; exact ⟨by decide, by decide, dh_31 w h0 h1 (by omega)⟩
 by_cases q12 : w < 11264
 · have e : decX w = 32 := by unfold decX; rw [if_neg q0]; rw [if_neg q1]; rw [if_neg q2]; rw [if_neg q3]; rw [if_neg q4]; rw [if_neg q5]; rw [if_neg q6]; rw [if_neg q7]; rw [if_neg q8]; rw [if_neg q9]; rw [if_neg q10]; rw [if_neg q11]; rw [if_pos q12]
   rw [e]; exact ⟨by decide, by decide, dh_32 w h0 h1 (by omega)⟩
 by_cases q13 : w < 12288
 · have e : decX w = 33 := by unfold decX; rw [if_neg q0]; rw [if_neg q1]; rw [if_neg q2]; rw [if_neg q3]; rw [if_neg q4]; rw [if_neg q5]; rw [if_neg q6]; rw [if_neg q7]; rw [if_neg q8]; rw [if_neg q9]; rw [if_neg q10]; rw [if_neg q11]; rw [if_neg q12]; rw [if_pos q13]
   rw [e]; exact ⟨by decide, by decide, dh_33 w h0 h1 (by omega)⟩
 by_cases q14 : w < 16384
 · have e : decX w = 34 := by unfold decX; rw [if_neg q0]; rw [if_neg q1]; rw [if_neg q2]; rw [if_neg q3]; rw [if_neg q4]; rw [if_neg q5]; rw [if_neg q6]; rw [if_neg q7]; rw [if_neg q8]; rw [if_neg q9]; rw [if_neg q10]; rw [if_neg q11]; rw [if_neg q12]; rw [if_neg q13]; rw [if_pos q14]
   rw [e]; exact ⟨by decide, by decide, dh_34 w h0 h1 (by omega)⟩
 by_cases q15 : w < 20480
 · have e : decX w = 35 := by unfold decX; rw [if_neg q0]; rw [if_neg q1]; rw [if_neg q2]; rw [if_neg q3]; rw [if_neg q4]; rw [if_neg q5]; rw [if_neg q6]; rw [if_neg q7]; rw [if_neg q8]; rw [if_neg q9]; rw [if_neg q10]; rw [if_neg q11]; rw [if_neg q12]; rw [if_neg q13]; rw [if_neg q14]; rw [if_pos q15]
   rw [e]; exact ⟨by decide, by decide, dh_35 w h0 h1 (by omega)⟩
 by_cases q16 : w < 24576
 · have e : decX w = 36 := by unfold decX; rw [if_neg q0]; rw [if_neg q1]; rw [if_neg q2]; rw [if_neg q3]; rw [if_neg q4]; rw [if_neg q5]; rw [if_neg q6]; rw [if_neg q7]; rw [if_neg q8]; rw [if_neg q9]; rw [if_neg q10]; rw [if_neg q11]; rw [if_neg q12]; rw [if_neg q13]; rw [if_neg q14]; rw [if_neg q15]; rw [if_pos q16]
   rw [e]; exact ⟨by decide, by decide, dh_36 w h0 h1 (by omega)⟩
 by_cases q17 : w < 25600
 · have e : decX w = 37 := by unfold decX; rw [if_neg q0]; rw [if_neg q1]; rw [if_neg q2]; rw [if_neg q3]; rw [if_neg q4]; rw [if_neg q5]; rw [if_neg q6]; rw [if_neg q7]; rw [if_neg q8]; rw [if_neg q9]; rw [if_neg q10]; rw [if_neg q11]; rw [if_neg q12]; rw [if_neg q13]; rw [if_neg q14]; rw [if_neg q15]; rw [if_neg q16]; rw [if_pos q17]
   rw [e]; exact ⟨by decide, by decide, dh_37 w h0 h1 (by omega)⟩
 by_cases q18 : w < 28672
 · have e : decX w = 38 := by unfold decX; rw [if_neg q0]; rw [if_neg q1]; rw [if_neg q2]; rw [if_neg q3]; rw [if_neg q4]; rw [if_neg q5]; rw [if_neg q6]; rw [if_neg q7]; rw [if_neg q8]; rw [if_neg q9]; rw [if_neg q10]; rw [if_neg q11]; rw [if_neg q12]; rw [if_neg q13]; rw [if_neg q14]; rw [if_neg q15]; rw [if_neg q16]; rw [if_neg q17]; rw [if_pos q18]
   rw [e]; exact ⟨by decide, by decide, dh_38 w h0 h1 (by omega)⟩
 have e : decX w = 39 := by unfold decX; rw [if_neg q0]; rw [if_neg q1]; rw [if_neg q2]; rw [if_neg q3]; rw [if_neg q4]; rw [if_neg q5]; rw [if_neg q6]; rw [if_neg q7]; rw [if_neg q8]; rw [if_neg q9]; rw [if_neg q10]; rw [if_neg q11]; rw [if_neg q12]; rw [if_neg q13]; rw [if_neg q14]; rw [if_neg q15]; rw [if_neg q16]; rw [if_neg q17]; rw [if_neg q18]
 rw [e]; exact ⟨by decide, by decide, dh_39 w h0 h1 (by omega)⟩
theorem hit_decB {c w : Int} (c0 : 1 ≤ c) (c1 : c ≤ 19) (h0 : 0 ≤ w) (h1 : w ≤ 32767) (h : hitP c w) : decB w = c := by
 have hc : c = 1 ∨ c = 2 ∨ c = 3 ∨ c = 4 ∨ c = 5 ∨ c = 6 ∨ c = 7 ∨ c = 8 ∨ c = 9 ∨ c = 10 ∨ c = 11 ∨ c = 12 ∨ c = 13 ∨ c = 14 ∨ c = 15 ∨ c = 16 ∨ c = 17 ∨ c = 18 ∨ c = 19 := by omega
 rcases hc with rfl | rfl | rfl | rfl | rfl | rfl | rfl | rfl | rfl | rfl | rfl | rfl | rfl | rfl | rfl | rfl | rfl | rfl | rfl
 · exact hd_1 w h0 h1 h
 · exact hd_2 w h0 h1 h
 · exact hd_3 w h0 h1 h
 · exact hd_4 w h0 h1 h
 · exact hd_5 w h0 h1 h
 · exact hd_6 w h0 h1 h
 · exact hd_7 w h0 h1 h
 · exact hd_8 w h0 h1 h
 · exact hd_9 w h0 h1 h
 · exact hd_10 w h0 h1 h
 · exact hd_11 w h0 h1 h
 · exact hd_12 w h0 h1 h
 · exact hd_13 w h0 h1 h
 · exact hd_14 w h0 h1 h
 · exact hd_15 w h0 h1 h
 · exact hd_16 w h0 h1 h
 · exact hd_17 w h0 h1 h
 · exact hd_18 w h0 h1 h
 · exact hd_19 w h0 h1 h
theorem hit_decX {c w : Int} (c0 : 20 ≤ c) (c1 : c ≤ 39) (h0 : 0 ≤ w) (h1 : w ≤ 32767) (h : hitP c w) : decX w = c := by
 have hc : c = 20 ∨ c = 21 ∨ c = 22 ∨ c = 23 ∨ c = 24 ∨ c = 25 ∨ c = 26 ∨ c = 27 ∨ c = 28 ∨ c = 29 ∨ c = 30 ∨ c = 31 ∨ c = 32 ∨ c = 33 ∨ c = 34 ∨ c = 35 ∨ c = 36 ∨ c = 37 ∨ c = 38 ∨ c = 39 := by omega
 rcases hc with rfl | rfl | rfl | rfl | rfl | rfl | rfl | rfl | rfl | rfl | rfl | rfl | rfl | rfl | rfl | rfl | rfl | rfl | rfl | rfl
 · exact hd_20 w h0 h1 h
 · exact hd_21 w h0 h1 h
 · exact hd_22 w h0 h1 h
 · exact hd_23 w h0 h1 h
 · exact hd_24 w h0 h1 h
 · exact hd_25 w h0 h1 h
 · exact hd_26 w h0 h1 h
 · exact hd_27 w h0 h1 h
 · exact hd_28 w h0 h1 h
 · exact hd_29 w h0 h1 h
 · exact hd_30 w h0 h1 h
 · exact hd_31 w h0 h1 h
 · exact hd_32 w h0 h1 h
 · exact hd_33 w h0 h1 h
 · exact hd_34 w h0 h1 h
 · exact hd_35 w h0 h1 h
 · exact hd_36 w h0 h1 h
 · exact hd_37 w h0 h1 h
 · exact hd_38 w h0 h1 h
 · exact hd_39 w h0 h1 h
theorem ofp_1 : isa_Of.f 1 = some (opN 1) := by kernel_rfl
theorem ofp_2 : isa_Of.f 2 = some (opN 2) := by kernel_rfl
theorem ofp_3 : isa_Of.f 3 = some (opN 3) := by kernel_rfl
theorem ofp_4 : isa_Of.f 4 = some (opN 4) := by kernel_rfl
theorem ofp_5 : isa_Of.f 5 = some (opN 5) := by kernel_rfl
theorem ofp_6 : isa_Of.f 6 = some (opN 6) := by kernel_rfl
theorem ofp_7 : isa_Of.f 7 = some (opN 7) := by kernel_rfl
theorem ofp_8 : isa_Of.f 8 = some (opN 8) := by kernel_rfl
theorem ofp_9 : isa_Of.f 9 = some (opN 9) := by kernel_rfl
theorem ofp_10 : isa_Of.f 10 = some (opN 10) := by kernel_rfl
theorem ofp_11 : isa_Of.f 11 = some (opN 11) := by kernel_rfl
theorem ofp_12 : isa_Of.f 12 = some (opN 12) := by kernel_rfl
theorem ofp_13 : isa_Of.f 13 = some (opN 13) := by kernel_rfl
theorem ofp_14 : isa_Of.f 14 = some (opN 14) := by kernel_rfl
theorem ofp_15 : isa_Of.f 15 = some (opN 15) := by kernel_rfl
theorem ofp_16 : isa_Of.f 16 = some (opN 16) := by kernel_rfl
theorem ofp_17 : isa_Of.f 17 = some (opN 17) := by kernel_rfl
theorem ofp_18 : isa_Of.f 18 = some (opN 18) := by kernel_rfl
theorem ofp_19 : isa_Of.f 19 = some (opN 19) := by kernel_rfl
theorem ofp_20 : isa_Of.f 20 = some (opN 20) := by kernel_rfl
theorem ofp_21 : isa_Of.f 21 = some (opN 21) := by kernel_rfl
theorem ofp_22 : isa_Of.f 22 = some (opN 22) := by kernel_rfl
theorem ofp_23 : isa_Of.f 23 = some (opN 23) := by kernel_rfl
theorem ofp_24 : isa_Of.f 24 = some (opN 24) := by kernel_rfl
theorem ofp_25 : isa_Of.f 25 = some (opN 25) := by kernel_rfl
theorem ofp_26 : isa_Of.f 26 = some (opN 26) := by kernel_rfl
theorem ofp_27 : isa_Of.f 27 = some (opN 27) := by kernel_rfl
theorem ofp_28 : isa_Of.f 28 = some (opN 28) := by kernel_rfl
theorem ofp_29 : isa_Of.f 29 = some (opN 29) := by kernel_rfl
theorem ofp_30 : isa_Of.f 30 = some (opN 30) := by kernel_rfl
theorem ofp_31 : isa_Of.f 31 = some (opN 31) := by kernel_rfl
theorem ofp_32 : isa_Of.f 32 = some (opN 32) := by kernel_rfl
theorem ofp_33 : isa_Of.f 33 = some (opN 33) := by kernel_rfl
theorem ofp_34 : isa_Of.f 34 = some (opN 34) := by kernel_rfl
theorem ofp_35 : isa_Of.f 35 = some (opN 35) := by kernel_rfl
theorem ofp_36 : isa_Of.f 36 = some (opN 36) := by kernel_rfl
theorem ofp_37 : isa_Of.f 37 = some (opN 37) := by kernel_rfl
theorem ofp_38 : isa_Of.f 38 = some (opN 38) := by kernel_rfl
theorem ofp_39 : isa_Of.f 39 = some (opN 39) := by kernel_rfl
theorem of_prog (c : Int) : isa_Of.f c = some (ofN c) := by
 by_cases h : 1 ≤ c ∧ c ≤ 39
 · unfold ofN
   rw [if_pos h]
   obtain ⟨h0, h1⟩ := h
   rcases codes h0 h1 with rfl | rfl | rfl | rfl | rfl | rfl | rfl | rfl | rfl | rfl | rfl | rfl | rfl | rfl | rfl | rfl | rfl | rfl | rfl | rfl | rfl | rfl | rfl | rfl | rfl | rfl | rfl | rfl | rfl | rfl | rfl | rfl | rfl | rfl | rfl | rfl | rfl | rfl | rfl
   · exact ofp_1
   · exact ofp_2
   · exact ofp_3
   · exact ofp_4
   · exact ofp_5
   · exact ofp_6
   · exact ofp_7
   · exact ofp_8
   · exact ofp_9
   · exact ofp_10
   · exact ofp_11
   · exact ofp_12
   · exact ofp_13
   · exact ofp_14
   · exact ofp_15
   · exact ofp_16
   · exact ofp_17
   · exact ofp_18
   · exact ofp_19
   · exact ofp_20
   · exact ofp_21
   · exact ofp_22
   · exact ofp_23
   · exact ofp_24
   · exact ofp_25
   · exact ofp_26
   · exact ofp_27
   · exact ofp_28
   · exact ofp_29
   · exact ofp_30
   · exact ofp_31
   · exact ofp_32
   · exact ofp_33
   · exact ofp_34
   · exact ofp_35
   · exact ofp_36
   · exact ofp_37
   · exact ofp_38
   · exact ofp_39
 · unfold ofN isa_Of.f isa_valid.f
   rw [if_neg h]
   by_cases h0 : c > 0
   · rw [if_pos h0, decide_eq_false (show ¬ c ≤ 39 by omega)]; rfl
   · rw [if_neg h0]; rfl
theorem range_prog (a : Int) (b : ByteArray) (x : Bool) (k d e : Int) : isa_Range.f a b x k d e = some (loK k, hiK k) := by
 unfold isa_Range.f isa_width.f loK hiK
 by_cases h4 : k = 4
 · subst h4; kernel_rfl
 by_cases h1 : k = 1
 · subst h1; kernel_rfl
 by_cases h2 : k = 2
 · subst h2; kernel_rfl
 by_cases h3 : k = 3
 · subst h3; kernel_rfl
 simp only [if_neg h4, if_neg h1, if_neg h2, if_neg h3]
 kernel_rfl
theorem row_in {c : Int} (h : 1 ≤ c ∧ c ≤ 39) : isa_row.f c = some (entOf c) := by unfold isa_row.f; rw [if_pos h]
theorem nm_TC {c : Int} (h : 1 ≤ c ∧ c ≤ 39) : (entOf c).1.toList = ([84, 67] : List UInt8) ↔ c = 1 := by
 have h1 := all_bool (f := fun c => decide ((entOf c).1.toList = ([84, 67] : List UInt8)) == decide (c = 1)) (by kernel_rfl) h.1 h.2
 simpa using h1
theorem nm_INDEX {c : Int} (h : 1 ≤ c ∧ c ≤ 39) : (entOf c).1.toList = ([73, 78, 68, 69, 88] : List UInt8) ↔ c = 13 := by
 have h1 := all_bool (f := fun c => decide ((entOf c).1.toList = ([73, 78, 68, 69, 88] : List UInt8)) == decide (c = 13)) (by kernel_rfl) h.1 h.2
 simpa using h1
theorem tab_in {c : Int} (h : 1 ≤ c ∧ c ≤ 39) : 0 ≤ loK (kdN c) ∧ hiK (kdN c) ≤ 4095 ∧ 0 ≤ baseN c ∧ baseN c ≤ 28672 ∧ baseN c + hiK (kdN c) ≤ 32767 := by
 have h1 := all_bool (f := fun c => decide (0 ≤ loK (kdN c)) && decide (hiK (kdN c) ≤ 4095) && decide (0 ≤ baseN c) && decide (baseN c ≤ 28672) && decide (baseN c + hiK (kdN c) ≤ 32767)) (by kernel_rfl) h.1 h.2
 simpa [and_assoc] using h1
theorem word_in {c n : Int} (h : 1 ≤ c ∧ c ≤ 39) (h1 : loK (kdN c) ≤ n) (h2 : n ≤ hiK (kdN c)) : IntKind.u16.wrap (wrap64 (baseN c + n)) = baseN c + n := by
 have := tab_in h
 rw [w64 (by omega) (by omega), u16w (by omega) (by omega)]
theorem enc_prog (c : Int) (s : ByteArray) (x : Bool) (y z t n : Int) (k : Nat) : isa_Encode.f (k + 4) c s x y z t n = some (encN c n) := by
 unfold isa_Encode.f encN
 by_cases h : 1 ≤ c ∧ c ≤ 39
 · have hv : isa_valid.f c = some true := by unfold isa_valid.f; rw [if_pos (by omega), decide_eq_true h.2]
   rw [hv, row_in h, if_pos h]
   simp only [Option.bind_some, if_true, range_prog]
   have ek : (entOf c).2.1 = kdN c := rfl
   have eb : (entOf c).2.2.1 = baseN c := rfl
   rw [ek, eb]
   by_cases h1 : n < loK (kdN c)
   · rw [if_pos h1, if_neg (by omega)]; rfl
   rw [if_neg h1]
   by_cases h2 : n > hiK (kdN c)
   · rw [decide_eq_true h2, if_neg (by omega)]; rfl
   rw [decide_eq_false h2]
   have hw := word_in h (by omega) (show n ≤ hiK (kdN c) by omega)
   simp only [isa_Encode.j0, nm_TC h, isa_Encode.j1, nm_INDEX h, hw, Bool.false_eq_true, if_false, if_true]
   by_cases c1 : c = 1
   · subst c1
     rw [if_pos rfl, if_neg (show ¬ ((1 : Int) = 13) by decide)]
     by_cases n3 : n = 3
     · rw [if_pos n3, if_neg (by subst n3; simp [resN])]
     by_cases n4 : n = 4
     · rw [if_neg n3, if_pos n4, if_neg (by subst n4; simp [resN])]
     by_cases n6 : n = 6
     · have hr : resN 1 n = true := by subst n6; rfl
       rw [if_neg n3, if_neg n4, if_pos (by simpa using n6), if_neg (by rw [hr]; simp)]
     · have hr : resN 1 n = false := by simp [resN, n3, n4, n6]
       rw [if_neg n3, if_neg n4, if_neg (by simpa using n6), if_pos ⟨by omega, by omega, hr⟩]
   · rw [if_neg c1]
     by_cases c13 : c = 13
     · rw [if_pos c13]
       by_cases n15 : n = 15
       · rw [if_pos n15, if_neg (by simp [resN, c13, n15])]
       · rw [if_neg n15, if_pos ⟨by omega, by omega, by simp [resN, c1, n15]⟩]
     · rw [if_neg c13, if_pos ⟨by omega, by omega, by simp [resN, c1, c13]⟩]
 · rw [if_neg h]
   unfold isa_valid.f
   by_cases h0 : c > 0
   · rw [if_pos h0, decide_eq_false (show ¬ c ≤ 39 by omega)]; rfl
   · rw [if_neg h0]; rfl
def pk (o : OpT) (n e : Int) : Int × ByteArray × Bool × Int × Int × Int × Int × Int := (o.1, o.2.1, o.2.2.1, o.2.2.2.1, o.2.2.2.2.1, o.2.2.2.2.2.1, n, e)
theorem step_find (k : Nat) {c w last : Int} (h : 1 ≤ c ∧ c ≤ 39) (hl : last ≤ 39) (h0 : 0 ≤ w) (h1 : w ≤ 32767) :
 isa_find.l0 (k + 1) w last c = if c < last then (if loK (kdN c) ≤ w - baseN c ∧ w - baseN c ≤ hiK (kdN c) then some c else isa_find.l0 k w last (c + 1)) else some last := by
 rw [isa_find.l0]
 by_cases hc : c < last
 · rw [if_pos hc, if_pos hc, row_in h]
   have ek : (entOf c).2.1 = kdN c := rfl
   have eb : (entOf c).2.2.1 = baseN c := rfl
   have tb := tab_in h
   simp only [Option.bind_some, range_prog, ek, eb]
   rw [w64 (by omega) (by omega), show (c + 1) % 256 = c + 1 by omega]
   by_cases h2 : loK (kdN c) ≤ w - baseN c
   · rw [if_pos h2]
     by_cases h3 : w - baseN c ≤ hiK (kdN c)
     · rw [if_pos h3, if_pos ⟨h2, h3⟩]
     · rw [if_neg h3, if_neg (by omega)]
   · rw [if_neg h2, if_neg (by omega)]
 · rw [if_neg hc, if_neg hc]
theorem find_to {w last e : Int} (he : 1 ≤ e ∧ e ≤ last) (hl : last ≤ 39) (h0 : 0 ≤ w) (h1 : w ≤ 32767) (hit : e < last → loK (kdN e) ≤ w - baseN e ∧ w - baseN e ≤ hiK (kdN e)) :
 ∀ (d : Nat) (k : Nat) (c : Int), 1 ≤ c → c + d = e → d < k → (∀ j, c ≤ j → j < e → ¬ (loK (kdN j) ≤ w - baseN j ∧ w - baseN j ≤ hiK (kdN j))) → isa_find.l0 k w last c = some e
 | 0, k, c, hc, hd, hk, hm => by
  obtain ⟨k, rfl⟩ : ∃ m, k = m + 1 := ⟨k - 1, by omega⟩
  obtain rfl : c = e := by omega
  rw [step_find k (by omega) hl h0 h1]
  by_cases h : c < last
  · rw [if_pos h, if_pos (hit h)]
  · rw [if_neg h]; congr 1; omega
 | d + 1, k, c, hc, hd, hk, hm => by
  obtain ⟨k, rfl⟩ : ∃ m, k = m + 1 := ⟨k - 1, by omega⟩
  rw [step_find k (by omega) hl h0 h1, if_pos (by omega), if_neg (hm c (by omega) (by omega))]
  exact find_to he hl h0 h1 hit d k (c + 1) (by omega) (by omega) (by omega) (fun j a b => hm j (by omega) b)
theorem dec_prog (w : Int) (x : Bool) (h0 : 0 ≤ w) (h1 : w ≤ 32767) (k : Nat) : isa_Decode.f (k + 40) w x = some (pk (opN (decN w x)) (w - baseN (decN w x)) 0) := by
 have hc : decC (k + 40) w x = some (decN w x) := by
  unfold decC decN
  cases x with
  | true =>
   rw [if_pos rfl, if_pos rfl]
   have hd := decX_hit w h0 h1
   unfold isa_find.f
   refine find_to ⟨by omega, hd.2.1⟩ (by omega) h0 h1 (fun _ => ⟨hd.2.2.1, hd.2.2.2.1⟩) (decX w - 20).toNat _ 20 (by omega) (by omega) (by omega) ?_
   intro j a b hj
   have hr : resN j (w - baseN j) = false := by unfold resN; rw [beq_false_of_ne (show j ≠ 1 by omega), beq_false_of_ne (show j ≠ 13 by omega)]; rfl
   have := hit_decX (c := j) (by omega) (by omega) h0 h1 ⟨hj.1, hj.2, hr⟩
   omega
  | false =>
   rw [if_neg (show ¬ (false = true) by decide), if_neg (show ¬ (false = true) by decide)]
   have hd := decB_hit w h0 h1
   by_cases n3 : w = 3
   · rw [if_pos n3, n3]; rfl
   by_cases n4 : w = 4
   · rw [if_neg n3, if_pos n4, n4]; rfl
   by_cases n6 : w = 6
   · rw [if_neg n3, if_neg n4, if_pos n6, n6]; rfl
   by_cases n5 : w = 20495
   · rw [if_neg n3, if_neg n4, if_neg n6, if_pos n5, n5]; rfl
   rw [if_neg n3, if_neg n4, if_neg n6, if_neg n5]
   unfold isa_find.f
   refine find_to ⟨hd.1, hd.2.1⟩ (by omega) h0 h1 (fun _ => ⟨hd.2.2.1, hd.2.2.2.1⟩) (decB w - 1).toNat _ 1 (by omega) (by omega) (by omega) ?_
   intro j a b hj
   have hr : resN j (w - baseN j) = false := by
    unfold resN
    by_cases j1 : j = 1
    · subst j1
      have e : baseN 1 = 0 := tb_1.2.2
      rw [e, beq_false_of_ne (show w - 0 ≠ 3 by omega), beq_false_of_ne (show w - 0 ≠ 4 by omega), beq_false_of_ne (show w - 0 ≠ 6 by omega)]; rfl
    by_cases j13 : j = 13
    · subst j13
      have e : baseN 13 = 20480 := tb_13.2.2
      rw [e, beq_false_of_ne (show w - 20480 ≠ 15 by omega)]; rfl
    · rw [beq_false_of_ne j1, beq_false_of_ne j13]; rfl
   have := hit_decB (c := j) (by omega) (by omega) h0 h1 ⟨hj.1, hj.2, hr⟩
   omega
 have hr : 1 ≤ decN w x ∧ decN w x ≤ 39 := by
  unfold decN
  cases x with
  | true => have hd := decX_hit w h0 h1; rw [if_pos rfl]; omega
  | false => have hd := decB_hit w h0 h1; rw [if_neg (by decide)]; omega
 unfold isa_Decode.f
 have tb := tab_in hr
 rw [if_neg (by omega), if_pos h0, hc, Option.bind_some, of_prog, row_in hr]
 simp only [Option.bind_some]
 have eb : (entOf (decN w x)).2.2.1 = baseN (decN w x) := rfl
 have e : ofN (decN w x) = opN (decN w x) := by unfold ofN; rw [if_pos hr]
 rw [eb, e, w64 (by omega) (by omega)]
 rfl
end Go.Proofs.YtgbmaajfbbilhaaGreat.Isa
end
