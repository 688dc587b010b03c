/- Plain laws for the order of interrupts: bits of sums, the first pending number, an array of eleven bools; no program in sight. -/
import Derived.Test.YtejnppbkncfkeaaRup
namespace Go.Proofs.Ytejnppbkncfkeaa.Rup
open Go.RowKit Go.Proofs.Ytejnppbkncfkeaa.PAll Go.Proofs.YtejnppbkncfkeaaW.PrintWords Go.Proofs.YtejnppbkncfkeaaW.PrintLast Go.Proofs.YtejnppbkncfkeaaW.PrintMore Go.Proofs.Ytejnppbkncfkeaa.Plain
set_option linter.unusedVariables false
set_option linter.unusedSimpArgs false
def bI (b : Bool) : Int := if b = true then 1 else 0
theorem bI_range (b : Bool) : 0 ≤ bI b ∧ bI b ≤ 1 := by cases b <;> decide
theorem bI_is (b : Bool) : (bI b == 1) = b := by cases b <;> rfl
theorem sum_ten (p : Int → Bool) : sumU p 10 1 = 2 * bI (p 1) + 4 * bI (p 2) + 8 * bI (p 3) + 16 * bI (p 4) + 32 * bI (p 5) + 64 * bI (p 6) + 128 * bI (p 7) + 256 * bI (p 8) + 512 * bI (p 9) + 1024 * bI (p 10) := by
  have hb : ∀ (i k : Int), pw i = k → (if p i = true then pw i else 0) = k * bI (p i) := fun i k h => by
    unfold bI; rw [h]; split <;> omega
  have h1 := hb 1 2 rfl
  have h2 := hb 2 4 rfl
  have h3 := hb 3 8 rfl
  have h4 := hb 4 16 rfl
  have h5 := hb 5 32 rfl
  have h6 := hb 6 64 rfl
  have h7 := hb 7 128 rfl
  have h8 := hb 8 256 rfl
  have h9 := hb 9 512 rfl
  have h10 := hb 10 1024 rfl
  simp only [sumU, Int.reduceAdd]
  omega
theorem wt_sum (p : Int → Bool) (j : Int) (h1 : 1 ≤ j) (h2 : j ≤ 10) : wt (sumU p 10 1) j = p j := by
  rw [sum_ten]
  have r1 := bI_range (p 1)
  have r2 := bI_range (p 2)
  have r3 := bI_range (p 3)
  have r4 := bI_range (p 4)
  have r5 := bI_range (p 5)
  have r6 := bI_range (p 6)
  have r7 := bI_range (p 7)
  have r8 := bI_range (p 8)
  have r9 := bI_range (p 9)
  have r10 := bI_range (p 10)
  have key : ∀ S k : Int, S / pw j % 2 = k → (k = bI (p j)) → wt S j = p j := fun S k e1 e2 => by unfold wt; rw [e1, e2, bI_is]
  refine key _ _ rfl ?_
  rcases ten h1 h2 with rfl | rfl | rfl | rfl | rfl | rfl | rfl | rfl | rfl | rfl
  · rw [show pw 1 = 2 from rfl]; omega
  · rw [show pw 2 = 4 from rfl]; omega
  · rw [show pw 3 = 8 from rfl]; omega
  · rw [show pw 4 = 16 from rfl]; omega
  · rw [show pw 5 = 32 from rfl]; omega
  · rw [show pw 6 = 64 from rfl]; omega
  · rw [show pw 7 = 128 from rfl]; omega
  · rw [show pw 8 = 256 from rfl]; omega
  · rw [show pw 9 = 512 from rfl]; omega
  · rw [show pw 10 = 1024 from rfl]; omega
theorem sum_small (p : Int → Bool) : 0 ≤ sumU p 10 1 ∧ sumU p 10 1 < 2048 := by
  rw [sum_ten]
  have r1 := bI_range (p 1)
  have r2 := bI_range (p 2)
  have r3 := bI_range (p 3)
  have r4 := bI_range (p 4)
  have r5 := bI_range (p 5)
  have r6 := bI_range (p 6)
  have r7 := bI_range (p 7)
  have r8 := bI_range (p 8)
  have r9 := bI_range (p 9)
  have r10 := bI_range (p 10)
  omega
/-- s holds just the numbers that p names. -/
def okS (p : Int → Bool) (s : Int) : Prop := (0 ≤ s ∧ s < 2048) ∧ ∀ j, 1 ≤ j → j ≤ 10 → wt s j = p j
def setP (p : Int → Bool) (n : Int) : Int → Bool := fun j => decide (j = n) || p j
def fromP (p : Int → Bool) (n : Int) : Int → Bool := fun j => decide (n ≤ j) && p j
theorem okS_zero : okS (fun _ => false) 0 := ⟨by decide, fun j h1 h2 => by unfold wt; rw [Int.zero_ediv]; rfl⟩
theorem okS_rq {p : Int → Bool} {s n : Int} (h : okS p s) : okS (setP p n) (rq s n) := by
  refine ⟨sum_small _, fun j h1 h2 => ?_⟩
  unfold rq
  rw [wt_sum _ j h1 h2, h.2 j h1 h2]; rfl
theorem okS_le {p : Int → Bool} {s n : Int} (h : okS (fromP p n) s) : okS (fromP p (n + 1)) (le s n) := by
  refine ⟨sum_small _, fun j h1 h2 => ?_⟩
  unfold le
  rw [wt_sum _ j h1 h2, h.2 j h1 h2]
  unfold fromP
  by_cases e : j = n
  · rw [decide_eq_true e, decide_eq_false (show ¬ n + 1 ≤ j by omega)]; rfl
  · rw [decide_eq_false e]
    by_cases f : n + 1 ≤ j
    · rw [decide_eq_true f, decide_eq_true (show n ≤ j by omega)]; rfl
    · rw [decide_eq_false f, decide_eq_false (show ¬ n ≤ j by omega)]; rfl
theorem okS_skip {p : Int → Bool} {s n : Int} (h : okS (fromP p n) s) (hn : p n = false) : okS (fromP p (n + 1)) s := by
  refine ⟨h.1, fun j h1 h2 => ?_⟩
  rw [h.2 j h1 h2]
  unfold fromP
  by_cases e : j = n
  · rw [e, hn, Bool.and_false, Bool.and_false]
  · by_cases f : n + 1 ≤ j
    · rw [decide_eq_true f, decide_eq_true (show n ≤ j by omega)]
    · rw [decide_eq_false f, decide_eq_false (show ¬ n ≤ j by omega)]
theorem okS_from {p : Int → Bool} {s : Int} (h : okS p s) : okS (fromP p 1) s := ⟨h.1, fun j h1 h2 => by rw [h.2 j h1 h2]; unfold fromP; rw [decide_eq_true h1]; rfl⟩
theorem find_of (p : Int → Bool) (n : Int) : ∀ (m : Nat) (i : Int), i ≤ n → n < i + m → p n = true → (∀ j, i ≤ j → j < n → p j = false) → (upL m i).find? p = some n
  | 0, i, h1, h2, _, _ => by omega
  | m + 1, i, h1, h2, hp, hf => by
    rw [upL, List.find?_cons]
    by_cases e : i = n
    · rw [e, hp]
    · rw [hf i (by omega) (by omega)]
      exact find_of p n m (i + 1) (by omega) (by push_cast at h2; omega) hp (fun j k1 k2 => hf j (by omega) k2)
theorem find_no (p : Int → Bool) : ∀ (m : Nat) (i : Int), (∀ j, i ≤ j → j < i + m → p j = false) → (upL m i).find? p = none
  | 0, i, _ => rfl
  | m + 1, i, hf => by
    rw [upL, List.find?_cons, hf i (by omega) (by omega)]
    exact find_no p m (i + 1) (fun j k1 k2 => hf j (by omega) (by push_cast; omega))
theorem okS_ch {p : Int → Bool} {s n : Int} (h : okS (fromP p n) s) (h1 : 1 ≤ n) (h2 : n ≤ 10) (hn : p n = true) : chI s = some n := by
  refine find_of _ n 10 1 h1 (by omega) ?_ (fun j k1 k2 => ?_)
  · rw [h.2 n h1 h2]; unfold fromP; rw [decide_eq_true (Int.le_refl n), hn]; rfl
  · rw [h.2 j k1 (by omega)]; unfold fromP; rw [decide_eq_false (show ¬ n ≤ j by omega)]; rfl
theorem okS_none {p : Int → Bool} {s : Int} (h : okS (fromP p 11) s) : chI s = none := by
  refine find_no _ 10 1 (fun j k1 k2 => ?_)
  rw [h.2 j k1 (by omega)]; unfold fromP; rw [decide_eq_false (show ¬ (11 : Int) ≤ j by omega)]; rfl
theorem okS_wt {p : Int → Bool} {s n : Int} (h : okS (fromP p n) s) (h1 : 1 ≤ n) (h2 : n ≤ 10) : wtB s n = p n := by
  unfold wtB
  rw [h.2 n h1 h2, decide_eq_true ⟨h1, h2⟩]; unfold fromP; rw [decide_eq_true (Int.le_refl n)]; rfl
theorem rq_wt {s n : Int} (h1 : 1 ≤ n) (h2 : n ≤ 10) : wtB (rq s n) n = true := by
  unfold wtB rq
  rw [wt_sum _ n h1 h2, decide_eq_true ⟨h1, h2⟩, decide_eq_true rfl]; rfl
theorem le_wt {s n : Int} (h1 : 1 ≤ n) (h2 : n ≤ 10) : wtB (le s n) n = false := by
  unfold wtB le
  rw [wt_sum _ n h1 h2, decide_eq_true (show n = n from rfl)]; simp
/-- Eleven bools, as cells. -/
def wantA (p : Int → Bool) : Array Value := #[.bool (p 0), .bool (p 1), .bool (p 2), .bool (p 3), .bool (p 4), .bool (p 5), .bool (p 6), .bool (p 7), .bool (p 8), .bool (p 9), .bool (p 10)]
theorem wantA_get (p : Int → Bool) {n : Int} (h1 : 1 ≤ n) (h2 : n ≤ 10) : (wantA p)[n.toNat]? = some (.bool (p n)) := by
  rcases ten h1 h2 with rfl | rfl | rfl | rfl | rfl | rfl | rfl | rfl | rfl | rfl <;> rfl
theorem wantA_set (p : Int → Bool) {n : Int} (h1 : 1 ≤ n) (h2 : n ≤ 10) : (wantA p).setIfInBounds n.toNat (.bool true) = wantA (setP p n) := by
  rcases ten h1 h2 with rfl | rfl | rfl | rfl | rfl | rfl | rfl | rfl | rfl | rfl <;> simp [wantA, setP]
end Go.Proofs.Ytejnppbkncfkeaa.Rup
