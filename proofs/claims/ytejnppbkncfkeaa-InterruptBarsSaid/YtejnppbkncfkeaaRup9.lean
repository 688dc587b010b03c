/- The law InterruptBars, in plain Lean over its printed form: for all numbers of their kinds. -/
import Derived.Test.YtejnppbkncfkeaaFB
import Derived.Test.YtejnppbkncfkeaaRup8
namespace Go.Proofs.Ytejnppbkncfkeaa.Rup
open Go.RowKit Go.Proofs.Ytejnppbkncfkeaa.PAll Go.Proofs.YtejnppbkncfkeaaW.PrintWords Go.Proofs.YtejnppbkncfkeaaW.PrintLast Go.Proofs.YtejnppbkncfkeaaW.PrintMore Go.Proofs.Ytejnppbkncfkeaa.Plain
set_option linter.unusedVariables false
set_option linter.unusedSimpArgs false
theorem tab_flags : ∀ n : Nat, n < 256 → decide (Go.bits .and .u8 (n : Int) 31 = 0) = (!(Go.bits .and .u8 (n : Int) 1 != 0) && !(Go.bits .and .u8 (n : Int) 2 != 0) && !(Go.bits .and .u8 (n : Int) 4 != 0) && !(Go.bits .and .u8 (n : Int) 8 != 0) && (IntKind.u16.wrap (Go.bits .and .u8 ((n : Int) / 16) 1) == 0)) := by decide +kernel
theorem tab_some : ∀ b : Nat, b < 2048 → (L10.find? (wt (b : Int))).isSome = (((b &&& 2046 : Nat) : Int) != 0) := by decide +kernel
theorem find_congr (p q : Int → Bool) (h : ∀ i, 1 ≤ i → i ≤ 10 → p i = q i) : ∀ (m : Nat) (i : Int), 1 ≤ i → i + m ≤ 11 → (upL m i).find? p = (upL m i).find? q
  | 0, i, _, _ => rfl
  | m + 1, i, h1, h2 => by rw [upL, List.find?_cons, List.find?_cons, h i h1 (by omega), find_congr p q h m (i + 1) (by omega) (by omega)]
theorem chI_some {s : Int} (s0 : 0 ≤ s) (s1 : s < 65536) : (chI s).isSome = (Go.bits .and .u16 s 2046 != 0) := by
  obtain ⟨a, rfl⟩ := Int.eq_ofNat_of_zero_le s0
  have e : chI (a : Int) = L10.find? (wt ((a % 2048 : Nat) : Int)) := find_congr _ _ (fun i i1 i2 => by rw [wt_mod _ i i1 i2, show ((a : Int) % 2048) = ((a % 2048 : Nat) : Int) by omega]) 10 1 (by decide) (by decide)
  rw [e, tab_some _ (Nat.mod_lt _ (by decide)), show (2046 : Int) = ((2046 : Nat) : Int) from rfl, u16_and_nat a 2046 (by omega) (by decide), mask_mod a]
theorem find_first (p : Int → Bool) (n : Int) : ∀ (m : Nat) (i : Int), (upL m i).find? p = some n → ∀ j, i ≤ j → j < n → p j = false
  | 0, i, h => by simp [upL] at h
  | m + 1, i, h => by
    intro j h1 h2
    rw [upL, List.find?_cons] at h
    cases hp : p i with
    | true => rw [hp] at h; cases h; omega
    | false =>
      rw [hp] at h
      by_cases e : j = i
      · rw [e]; exact hp
      · exact find_first p n m (i + 1) h j (by omega) h2
theorem waitsF {s i : Int} {k : Nat} (s0 : 0 ≤ s) (s1 : s < 65536) : interrupt_Waits.f k s i = some (wtB s i) := by unfold interrupt_Waits.f; rw [if_pos ⟨s0, s1⟩]
theorem bars_l0 {s n : Int} (s0 : 0 ≤ s) (s1 : s < 65536) (hn : chI s = some n) : ∀ (m k : Nat) (j : Int), j + m = n → 1 ≤ j → m + 1 ≤ k → perilunelaw07_InterruptBars.l0 k n j s = some true
  | 0, k, j, h, h1, hk => by
    obtain ⟨k, rfl⟩ : ∃ k', k = k' + 1 := ⟨k - 1, by omega⟩
    have hr := chI_range hn
    rw [perilunelaw07_InterruptBars.l0, if_neg (by omega), waitsF s0 s1, Option.bind_some, show wtB s n = true by unfold wtB; rw [decide_eq_true hr.1, hr.2]; rfl, if_pos rfl]
    rfl
  | m + 1, k, j, h, h1, hk => by
    obtain ⟨k, rfl⟩ : ∃ k', k = k' + 1 := ⟨k - 1, by omega⟩
    have hr := (chI_range hn).1
    have hf := find_first (wt s) n 10 1 hn j h1 (by omega)
    rw [perilunelaw07_InterruptBars.l0, if_pos (by omega), waitsF s0 s1, Option.bind_some, show wtB s j = false by unfold wtB; rw [hf, Bool.and_false], if_neg (by decide), w64 (by omega) (by omega)]
    exact bars_l0 s0 s1 hn m k (j + 1) (by push_cast at h; omega) (by omega) (by omega)
theorem bars_j0 {s : Int} (s0 : 0 ≤ s) (s1 : s < 65536) (k : Nat) (hk : 20 ≤ k) (p : Int × Bool) (hp : p = chR (chI s) ∨ p = (0, false)) : perilunelaw07_InterruptBars.j0 k p.1 p.2 false s = some true := by
  obtain ⟨k, rfl⟩ : ∃ k', k = k' + 1 := ⟨k - 1, by omega⟩
  have no : perilunelaw07_InterruptBars.j0 (k + 1) 0 false false s = some true := by
    rw [perilunelaw07_InterruptBars.j0, if_neg (by decide), if_neg (by decide), if_pos rfl]; rfl
  rcases hp with hp | hp
  · cases hc : chI s with
    | none => rw [hp, hc]; exact no
    | some n =>
      have hr := (chI_range hc).1
      rw [hp, hc]
      show perilunelaw07_InterruptBars.j0 (k + 1) n true false s = some true
      rw [perilunelaw07_InterruptBars.j0, if_neg (by decide), if_pos rfl]
      exact bars_l0 s0 s1 hc (n - 1).toNat k 1 (by omega) (by decide) (by omega)
  · rw [hp]; exact no
theorem ov_zero {a : Int} (a0 : 0 ≤ a) (a1 : a < 65536) : (ovI a == 0) = decide (a < 16384 ∨ a ≥ 49152) := by
  unfold ovI
  rw [Bool.eq_iff_iff, beq_iff_eq, decide_eq_true_iff]
  split
  · constructor <;> omega
  · split
    · constructor <;> omega
    · constructor <;> omega
theorem bars_pure {a fl s : Int} (a0 : 0 ≤ a) (a1 : a < 65536) (f0 : 0 ≤ fl) (f1 : fl < 256) (s0 : 0 ≤ s) (s1 : s < 65536) : perilunelaw07_InterruptBars.f 40 a fl s = some true := by
  unfold perilunelaw07_InterruptBars.f interrupt_Choose.f
  rw [if_pos ⟨s0, s1⟩, Option.bind_some]
  simp only [pAl (show 8 ≤ 40 by decide)]
  obtain ⟨n, rfl⟩ := Int.eq_ofNat_of_zero_le f0
  have hT := tab_flags n (by omega)
  have hA : alB a (IntKind.u16.wrap (Go.bits .and .u8 ((n : Int) / 16) 1)) (Go.bits .and .u8 (n : Int) 4 != 0) (Go.bits .and .u8 (n : Int) 8 != 0) (Go.bits .and .u8 (n : Int) 1 != 0) (Go.bits .and .u8 (n : Int) 2 != 0) = (decide (Go.bits .and .u8 (n : Int) 31 = 0) && decide (a < 16384 ∨ a ≥ 49152)) := by
    unfold alB; rw [hT, ov_zero a0 a1]
  rw [hA]
  have hS := chI_some s0 s1
  have J := fun p hp => bars_j0 s0 s1 40 (by decide) p hp
  have c2 : (chR (chI s)).2 = (Go.bits .and .u16 s 2046 != 0) := by rw [← hS]; cases chI s <;> rfl
  have hff : (if false = true then chR (chI s) else (0, false)) = (0, false) := rfl
  by_cases h31 : Go.bits .and .u8 (n : Int) 31 = 0
  · rw [decide_eq_true h31, if_pos h31, Bool.true_and]
    by_cases h1 : a < 16384
    · rw [decide_eq_true (show a < 16384 ∨ a ≥ 49152 from Or.inl h1), if_pos rfl, if_pos h1, if_neg (by rw [c2]; simp)]
      exact J _ (Or.inl rfl)
    · rw [if_neg h1]
      by_cases h2 : a ≥ 49152
      · rw [decide_eq_true (show a < 16384 ∨ a ≥ 49152 from Or.inr h2), if_pos rfl, if_pos h2, if_neg (by rw [c2]; simp), decide_eq_true h2]
        exact J _ (Or.inl rfl)
      · rw [decide_eq_false (show ¬ (a < 16384 ∨ a ≥ 49152) by omega), if_neg h2, hff, if_neg (by decide), decide_eq_false h2]
        exact J (0, false) (Or.inr rfl)
  · rw [decide_eq_false h31, if_neg h31, Bool.false_and, hff, if_neg (by decide)]
    exact J (0, false) (Or.inr rfl)
theorem bars_law (a0 a1 : Int) (z2 : S27) (w : World) (w0 : (Lit.int .u16 a0).wf = true) (w1 : (Lit.int .u8 a1).wf = true) (b2 : (Lit.int .u16 z2.f0).wf = true) :
    Calls Try.prog 6 #[.int .u16 a0, .int .u8 a1, .agg #[.int .u16 z2.f0]] w fun e w' => e = .returned (.bool true) ∧ Below w.heap.size w w' := by
  have h0 := wf16r w0
  have h2 := wf16r b2
  obtain ⟨n, hn, hn2⟩ := wf8 w1
  exact perilunelaw07_InterruptBars.calls 40 a0 a1 z2.f0 true w (bars_pure h0.1 h0.2 (by omega) (by omega) h2.1 h2.2)
end Go.Proofs.Ytejnppbkncfkeaa.Rup
