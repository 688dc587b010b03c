/- Chapter 5: a part of its proof (cut by program out of IsaPR); no condition. -/
import Derived.Test.YthfobpkdloejfaaGreatLa17
import Derived.Test.YthfobpkdloejfaaGreatLa35
set_option linter.unusedVariables false
set_option linter.unusedSimpArgs false
set_option linter.unusedSectionVars false
set_option maxRecDepth 100000
set_option maxHeartbeats 8000000
section
namespace Go.Proofs.YthfobpkdloejfaaGreat.Isa
open Go.RowKit Go.Proofs.YthfobpkdloejfaaGreat.PAll Go.Proofs.YthfobpkdloejfaaGreatW.PrintWords Go.Proofs.YthfobpkdloejfaaGreatW.PrintLast Go.Proofs.YthfobpkdloejfaaGreatW.PrintMore
theorem ofr_1 (k : Nat) : periluneref04_Of.f (k + 4) 1 = some (opN 1) := by kernel_rfl
theorem ofr_2 (k : Nat) : periluneref04_Of.f (k + 4) 2 = some (opN 2) := by kernel_rfl
theorem ofr_3 (k : Nat) : periluneref04_Of.f (k + 4) 3 = some (opN 3) := by kernel_rfl
theorem ofr_4 (k : Nat) : periluneref04_Of.f (k + 4) 4 = some (opN 4) := by kernel_rfl
theorem ofr_5 (k : Nat) : periluneref04_Of.f (k + 4) 5 = some (opN 5) := by kernel_rfl
theorem ofr_6 (k : Nat) : periluneref04_Of.f (k + 4) 6 = some (opN 6) := by kernel_rfl
theorem ofr_7 (k : Nat) : periluneref04_Of.f (k + 4) 7 = some (opN 7) := by kernel_rfl
theorem ofr_8 (k : Nat) : periluneref04_Of.f (k + 4) 8 = some (opN 8) := by kernel_rfl
theorem ofr_9 (k : Nat) : periluneref04_Of.f (k + 4) 9 = some (opN 9) := by kernel_rfl
theorem ofr_10 (k : Nat) : periluneref04_Of.f (k + 4) 10 = some (opN 10) := by kernel_rfl
theorem ofr_11 (k : Nat) : periluneref04_Of.f (k + 4) 11 = some (opN 11) := by kernel_rfl
theorem ofr_12 (k : Nat) : periluneref04_Of.f (k + 4) 12 = some (opN 12) := by kernel_rfl
theorem ofr_13 (k : Nat) : periluneref04_Of.f (k + 4) 13 = some (opN 13) := by kernel_rfl
theorem ofr_14 (k : Nat) : periluneref04_Of.f (k + 4) 14 = some (opN 14) := by kernel_rfl
theorem ofr_15 (k : Nat) : periluneref04_Of.f (k + 4) 15 = some (opN 15) := by kernel_rfl
theorem ofr_16 (k : Nat) : periluneref04_Of.f (k + 4) 16 = some (opN 16) := by kernel_rfl
theorem ofr_17 (k : Nat) : periluneref04_Of.f (k + 4) 17 = some (opN 17) := by kernel_rfl
theorem ofr_18 (k : Nat) : periluneref04_Of.f (k + 4) 18 = some (opN 18) := by kernel_rfl
theorem ofr_19 (k : Nat) : periluneref04_Of.f (k + 4) 19 = some (opN 19) := by kernel_rfl
theorem ofr_20 (k : Nat) : periluneref04_Of.f (k + 4) 20 = some (opN 20) := by kernel_rfl
theorem ofr_21 (k : Nat) : periluneref04_Of.f (k + 4) 21 = some (opN 21) := by kernel_rfl
theorem ofr_22 (k : Nat) : periluneref04_Of.f (k + 4) 22 = some (opN 22) := by kernel_rfl
theorem ofr_23 (k : Nat) : periluneref04_Of.f (k + 4) 23 = some (opN 23) := by kernel_rfl
theorem ofr_24 (k : Nat) : periluneref04_Of.f (k + 4) 24 = some (opN 24) := by kernel_rfl
theorem ofr_25 (k : Nat) : periluneref04_Of.f (k + 4) 25 = some (opN 25) := by kernel_rfl
theorem ofr_26 (k : Nat) : periluneref04_Of.f (k + 4) 26 = some (opN 26) := by kernel_rfl
theorem ofr_27 (k : Nat) : periluneref04_Of.f (k + 4) 27 = some (opN 27) := by kernel_rfl
theorem ofr_28 (k : Nat) : periluneref04_Of.f (k + 4) 28 = some (opN 28) := by kernel_rfl
theorem ofr_29 (k : Nat) : periluneref04_Of.f (k + 4) 29 = some (opN 29) := by kernel_rfl
theorem ofr_30 (k : Nat) : periluneref04_Of.f (k + 4) 30 = some (opN 30) := by kernel_rfl
theorem ofr_31 (k : Nat) : periluneref04_Of.f (k + 4) 31 = some (opN 31) := by kernel_rfl
theorem ofr_32 (k : Nat) : periluneref04_Of.f (k + 4) 32 = some (opN 32) := by kernel_rfl
theorem ofr_33 (k : Nat) : periluneref04_Of.f (k + 4) 33 = some (opN 33) := by kernel_rfl
theorem ofr_34 (k : Nat) : periluneref04_Of.f (k + 4) 34 = some (opN 34) := by kernel_rfl
theorem ofr_35 (k : Nat) : periluneref04_Of.f (k + 4) 35 = some (opN 35) := by kernel_rfl
theorem ofr_36 (k : Nat) : periluneref04_Of.f (k + 4) 36 = some (opN 36) := by kernel_rfl
theorem ofr_37 (k : Nat) : periluneref04_Of.f (k + 4) 37 = some (opN 37) := by kernel_rfl
theorem ofr_38 (k : Nat) : periluneref04_Of.f (k + 4) 38 = some (opN 38) := by kernel_rfl
theorem ofr_39 (k : Nat) : periluneref04_Of.f (k + 4) 39 = some (opN 39) := by kernel_rfl
theorem of_ref (c : Int) (k : Nat) : periluneref04_Of.f (k + 4) c = some (ofN c) := by
 by_cases h : 1 ≤ c ∧ c ≤ 39
 · unfold ofN
   rw [if_pos h]
   obtain ⟨h0, h1⟩ := h
   rcases codes h0 h1 with rfl | rfl | rfl | rfl | rfl | rfl | rfl | rfl | rfl | rfl | rfl | rfl | rfl | rfl | rfl | rfl | rfl | rfl | rfl | rfl | rfl | rfl | rfl | rfl | rfl | rfl | rfl | rfl | rfl | rfl | rfl | rfl | rfl | rfl | rfl | rfl | rfl | rfl | rfl
   · exact ofr_1 k
   · exact ofr_2 k
   · exact ofr_3 k
   · exact ofr_4 k
   · exact ofr_5 k
   · exact ofr_6 k
   · exact ofr_7 k
   · exact ofr_8 k
   · exact ofr_9 k
   · exact ofr_10 k
   · exact ofr_11 k
   · exact ofr_12 k
   · exact ofr_13 k
   · exact ofr_14 k
   · exact ofr_15 k
   · exact ofr_16 k
   · exact ofr_17 k
   · exact ofr_18 k
   · exact ofr_19 k
   · exact ofr_20 k
   · exact ofr_21 k
   · exact ofr_22 k
   · exact ofr_23 k
   · exact ofr_24 k
   · exact ofr_25 k
   · exact ofr_26 k
   · exact ofr_27 k
   · exact ofr_28 k
   · exact ofr_29 k
   · exact ofr_30 k
   · exact ofr_31 k
   · exact ofr_32 k
   · exact ofr_33 k
   · exact ofr_34 k
   · exact ofr_35 k
   · exact ofr_36 k
   · exact ofr_37 k
   · exact ofr_38 k
   · exact ofr_39 k
 · unfold ofN periluneref04_Of.f
   rw [if_neg h]
   by_cases h0 : c < 1
   · rw [if_pos h0]; rfl
   · rw [if_neg h0, decide_eq_true (show c > 39 by omega)]; rfl
theorem range_ref (a : Int) (b : ByteArray) (x : Bool) (k d e : Int) : periluneref04_Range.f a b x k d e = some (loK k, hiK k) := by
 unfold periluneref04_Range.f loK hiK
 by_cases h4 : k = 4
 · subst h4; kernel_rfl
 by_cases h1 : k = 1
 · subst h1; kernel_rfl
 by_cases h2 : k = 2
 · subst h2; kernel_rfl
 by_cases h3 : k = 3
 · subst h3; kernel_rfl
 simp only [if_neg h4, if_neg h1, if_neg h2, if_neg h3]
def BASES : List Int := [0, 6, 4, 3, 4096, 4096, 8192, 9216, 10240, 11264, 12288, 16384, 20480, 20495, 21504, 22528, 23552, 24576, 28672, 0, 512, 1024, 1536, 2048, 2560, 3072, 3584, 4096, 4096, 8192, 9216, 10240, 11264, 12288, 16384, 20480, 24576, 24576, 28672]
theorem bases_f : periluneref04_bases.f = some BASES := by kernel_rfl
theorem bases_at {c : Int} (h : 1 ≤ c ∧ c ≤ 39) : rd BASES (c - 1) = baseN c := by
 have h1 := all_bool (f := fun c => decide (rd BASES (c - 1) = baseN c)) (by kernel_rfl) h.1 h.2
 exact of_decide_eq_true h1
theorem res_ref {c n : Int} (h : 1 ≤ c ∧ c ≤ 39) : periluneref04_reserved.f (entOf c).1 n = some (resN c n) := by
 unfold periluneref04_reserved.f resN
 simp only [nm_TC h, nm_INDEX h]
 by_cases c1 : c = 1
 · have c13 : ¬ c = 13 := by omega
   rw [if_pos c1, c1]
   by_cases n3 : n = 3
   · simp [n3]
   by_cases n4 : n = 4
   · simp [n4]
   by_cases n6 : n = 6
   · simp [n6]
   simp [n3, n4, n6]
 · rw [if_neg c1]
   by_cases c13 : c = 13
   · simp [c13]
   · simp [c1, c13]
theorem enc_ref (c : Int) (s : ByteArray) (x : Bool) (y z t n : Int) (k : Nat) : periluneref04_Encode.f (k + 4) c s x y z t n = some (encN c n) := by
 unfold periluneref04_Encode.f encN
 rw [of_ref]
 simp only [Option.bind_some]
 by_cases h : 1 ≤ c ∧ c ≤ 39
 · have e : ofN c = opN c := by unfold ofN; rw [if_pos h]
   have e2 : (opN c).2.2.2.2.2.2 = 0 := rfl
   have e3 : (opN c).2.1 = (entOf c).1 := rfl
   have e4 : (opN c).1 = c := rfl
   have e5 : (opN c).2.2.2.1 = kdN c := rfl
   rw [e, if_pos e2, range_ref, if_pos h]
   simp only [Option.bind_some, e3, e4, e5, res_ref h, bases_f]
   by_cases h1 : n < loK (kdN c)
   · rw [if_pos h1, if_neg (by omega)]
   by_cases h2 : n > hiK (kdN c)
   · rw [if_neg h1, if_pos h2, if_neg (by omega)]
   rw [if_neg h1, if_neg h2]
   have hm : (c - 1) % 256 = c - 1 := by omega
   have hw := word_in h (by omega) (show n ≤ hiK (kdN c) by omega)
   cases hr : resN c n with
   | true => rw [if_pos rfl, if_neg (by simp)]
   | false =>
    rw [if_neg (by decide), hm, if_pos (by omega), if_pos (by show c - 1 < 39; omega), bases_at h, hw, if_pos ⟨by omega, by omega, rfl⟩]
 · have e : ofN c = noOp := by unfold ofN; rw [if_neg h]
   have e2 : noOp.2.2.2.2.2.2 = 7 := rfl
   rw [e, e2, if_neg (by decide), if_neg h]
theorem step_ref (k : Nat) {c w : Int} (x : Bool) (h : 1 ≤ c ∧ c ≤ 39) (h0 : 0 ≤ w) (h1 : w ≤ 32767) :
 periluneref04_Decode.l0 (k + 5) w x BASES (c - 1) = if (decide (c > 19) == x) = true ∧ loK (kdN c) ≤ w - baseN c ∧ w - baseN c ≤ hiK (kdN c) ∧ resN c (w - baseN c) = false then some (pk (opN c) (w - baseN c) 0) else periluneref04_Decode.l0 (k + 4) w x BASES c := by
 rw [periluneref04_Decode.l0]
 have e1 : (wrap64 (c - 1 + 1)) % 256 = c := by rw [w64 (by omega) (by omega)]; omega
 have e2 : wrap64 (c - 1 + 1) = c := by rw [w64 (by omega) (by omega)]; omega
 have tb := tab_in h
 have e3 : wrap64 (wrap64 w - rd BASES (c - 1)) = w - baseN c := by rw [bases_at h, w64 (n := w) (by omega) (by omega), w64 (by omega) (by omega)]
 have e : ofN c = opN c := by unfold ofN; rw [if_pos h]
 rw [if_pos (by show c - 1 < 39; omega), e1, of_ref, Option.bind_some, if_pos (by omega), e, e3, enc_ref, Option.bind_some, e2]
 have x1 : (opN c).1 = c := rfl
 have x2 : (opN c).2.2.1 = decide (c > 19) := rfl
 rw [x1, x2, hit_enc h]
 by_cases hx : (decide (c > 19) == x) = true
 · rw [if_pos hx]
   by_cases hh : loK (kdN c) ≤ w - baseN c ∧ w - baseN c ≤ hiK (kdN c) ∧ resN c (w - baseN c) = false
   · rw [if_pos hh, if_pos rfl, if_pos rfl, if_pos ⟨hx, hh⟩]; rfl
   · rw [if_neg hh, if_neg (show ¬ ((0, 3) : Int × Int).2 = 0 by decide), if_neg (fun q => hh q.2)]
 · rw [if_neg hx, if_neg (fun q => hx q.1)]
theorem ref_to {w e : Int} (x : Bool) (he : 1 ≤ e ∧ e ≤ 39) (h0 : 0 ≤ w) (h1 : w ≤ 32767) (hx : (decide (e > 19) == x) = true) (hit : hitP e w) :
 ∀ (d : Nat) (k : Nat) (c : Int), 1 ≤ c → c + d = e → d + 4 < k → (∀ j, c ≤ j → j < e → ¬ ((decide (j > 19) == x) = true ∧ hitP j w)) → periluneref04_Decode.l0 k w x BASES (c - 1) = some (pk (opN e) (w - baseN e) 0)
 | 0, k, c, hc, hd, hk, hm => by
  obtain ⟨k, rfl⟩ : ∃ m, k = m + 5 := ⟨k - 5, by omega⟩
  obtain rfl : c = e := by omega
  rw [step_ref k x he h0 h1, if_pos ⟨hx, hit⟩]
 | d + 1, k, c, hc, hd, hk, hm => by
  obtain ⟨k, rfl⟩ : ∃ m, k = m + 5 := ⟨k - 5, by omega⟩
  have hmc : ¬ ((decide (c > 19) == x) = true ∧ loK (kdN c) ≤ w - baseN c ∧ w - baseN c ≤ hiK (kdN c) ∧ resN c (w - baseN c) = false) := hm c (by omega) (by omega)
  rw [step_ref k x (by omega) h0 h1, if_neg hmc]
  have := ref_to x he h0 h1 hx hit d (k + 4) (c + 1) (by omega) (by omega) (by omega) (fun j a b => hm j (by omega) b)
  rwa [show c + 1 - 1 = c by omega] at this
theorem dec_ref (w : Int) (x : Bool) (h0 : 0 ≤ w) (h1 : w ≤ 32767) (k : Nat) : periluneref04_Decode.f (k + 50) w x = some (pk (opN (decN w x)) (w - baseN (decN w x)) 0) := by
 unfold periluneref04_Decode.f
 rw [if_neg (by omega), bases_f, Option.bind_some]
 unfold decN
 cases x with
 | true =>
  rw [if_pos rfl]
  have hd := decX_hit w h0 h1
  refine ref_to true (by omega) h0 h1 (by rw [decide_eq_true (by omega)]; rfl) hd.2.2 (decX w - 1).toNat _ 1 (by omega) (by omega) (by omega) ?_
  intro j a b hj
  have j20 : j > 19 := by simpa using hj.1
  have := hit_decX (c := j) (by omega) (by omega) h0 h1 hj.2
  omega
 | false =>
  rw [if_neg (by decide)]
  have hd := decB_hit w h0 h1
  refine ref_to false (by omega) h0 h1 (by rw [decide_eq_false (by omega)]; rfl) hd.2.2 (decB w - 1).toNat _ 1 (by omega) (by omega) (by omega) ?_
  intro j a b hj
  have := hit_decB (c := j) (by omega) (by omega) h0 h1 hj.2
  omega
end Go.Proofs.YthfobpkdloejfaaGreat.Isa
end
