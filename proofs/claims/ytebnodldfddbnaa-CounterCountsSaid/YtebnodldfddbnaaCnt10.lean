/- counter.Next, Serve and their references: what they compute, in plain lists. -/
import Derived.Test.YtebnodldfddbnaaCnt9
namespace Go.Proofs.Ytebnodldfddbnaa.Cnt
open Go.RowKit Go.Proofs.Ytebnodldfddbnaa.PAll Go.Proofs.YtebnodldfddbnaaW.PrintWords Go.Proofs.YtebnodldfddbnaaW.PrintLast Go.Proofs.YtebnodldfddbnaaW.PrintMore Go.Proofs.Ytebnodldfddbnaa.Plain Go.Proofs.Ytebnodldfddbnaa.One Go.Proofs.Ytebnodldfddbnaa.Lit
set_option linter.unusedVariables false
set_option linter.unusedSimpArgs false
/-- The index of the least address among the first i (and 0). -/
def nxT (l : List S26) : Nat → Int
  | 0 => 0
  | i + 1 => if (rd_T26 l (i : Int)).f0 < (rd_T26 l (nxT l i)).f0 then (i : Int) else nxT l i
theorem nxT_range (l : List S26) : ∀ i : Nat, i ≤ l.length → 0 ≤ nxT l i ∧ (0 < l.length → nxT l i < (l.length : Int))
  | 0, _ => ⟨by simp [nxT], fun h => by simp [nxT]; omega⟩
  | i + 1, h => by
    have ih := nxT_range l i (by omega)
    simp only [nxT]
    split
    · exact ⟨by omega, fun _ => by omega⟩
    · exact ih
theorem next_loop (l : List S26) (hl : l.length ≤ 1000000) : ∀ d (i : Nat) k, i + d = l.length → d < k → counter_Next.l0 k l (nxT l i) l (l.length : Int) (i : Int) = some (nxT l l.length, decide (0 < l.length))
  | 0, i, k, h, hk => by
    obtain ⟨k, rfl⟩ : ∃ m, k = m + 1 := ⟨k - 1, by omega⟩
    obtain rfl : i = l.length := by omega
    simp only [counter_Next.l0]
    rw [if_neg (by omega)]
    congr 2
    by_cases c : 0 < l.length
    · rw [decide_eq_true c, bne_iff_ne]; omega
    · rw [decide_eq_false c, show l.length = 0 by omega]; rfl
  | d + 1, i, k, h, hk => by
    obtain ⟨k, rfl⟩ : ∃ m, k = m + 1 := ⟨k - 1, by omega⟩
    have hw : wrap64 ((i : Int) + 1) = ((i + 1 : Nat) : Int) := by rw [w64 (by omega) (by omega)]; omega
    obtain ⟨n0, n1⟩ := nxT_range l i (by omega)
    have n1 := n1 (by omega)
    have ih := next_loop l hl d (i + 1) k (by omega) (by omega)
    simp only [nxT] at ih
    simp only [counter_Next.l0]
    rw [if_pos (by omega), if_pos (by omega), if_pos (by omega), if_pos n0, if_pos n1, hw]
    by_cases c : (rd_T26 l (i : Int)).f0 < (rd_T26 l (nxT l i)).f0
    · rw [if_pos c] at ih; rw [if_pos c]; exact ih
    · rw [if_neg c] at ih; rw [if_neg c]; exact ih
theorem next_f (l : List S26) (hl : l.length ≤ 1000000) : counter_Next.f (l.length + 1) l = some (nxT l l.length, decide (0 < l.length)) := next_loop l hl l.length 0 _ (by omega) (by omega)
theorem rnext_loop (l : List S26) (hl : l.length ≤ 1000000) : ∀ d (i : Nat) k, i + d = l.length → d < k → periluneref06_Next.l0 k l (nxT l i) (i : Int) = some (nxT l l.length, decide (0 < l.length))
  | 0, i, k, h, hk => by
    obtain ⟨k, rfl⟩ : ∃ m, k = m + 1 := ⟨k - 1, by omega⟩
    obtain rfl : i = l.length := by omega
    simp only [periluneref06_Next.l0]
    rw [if_neg (by omega)]
    congr 2
    rw [decide_eq_decide]; omega
  | d + 1, i, k, h, hk => by
    obtain ⟨k, rfl⟩ : ∃ m, k = m + 1 := ⟨k - 1, by omega⟩
    have hw : wrap64 ((i : Int) + 1) = ((i + 1 : Nat) : Int) := by rw [w64 (by omega) (by omega)]; omega
    obtain ⟨n0, n1⟩ := nxT_range l i (by omega)
    have n1 := n1 (by omega)
    have ih := rnext_loop l hl d (i + 1) k (by omega) (by omega)
    simp only [nxT] at ih
    simp only [periluneref06_Next.l0]
    rw [if_pos (by omega), if_pos (by omega), if_pos n0, if_pos n1, hw]
    by_cases c : (rd_T26 l (i : Int)).f0 < (rd_T26 l (nxT l i)).f0
    · rw [if_pos c] at ih; rw [if_pos c]; exact ih
    · rw [if_neg c] at ih; rw [if_neg c]; exact ih
theorem rnext_f (l : List S26) (hl : l.length ≤ 1000000) (k : Nat) (hk : l.length + 2 ≤ k) : periluneref06_Next.f k l = some (nxT l l.length, decide (0 < l.length)) := by
  unfold periluneref06_Next.f
  by_cases c : l.length = 0
  · obtain ⟨k, rfl⟩ : ∃ m, k = m + 1 := ⟨k - 1, by omega⟩
    simp only [periluneref06_Next.l0]
    rw [c, if_neg (by decide)]; rfl
  · have h1 : nxT l 1 = 0 := by simp [nxT]
    have := rnext_loop l hl (l.length - 1) 1 k (by omega) (by omega)
    rw [h1] at this
    exact this
theorem Next_c (A : Option Addr) (c : Nat) (l : List S26) (n : Nat) (e0 : l.length = n) (w : World) (hr : Kd.C k26 w A n l) (hc : n ≤ c) (hl : n ≤ 1000000) : Calls Try.prog 20 #[.slice A n c] w fun e w' => e = .returned (.tuple #[.int .i64 (nxT l n), .bool (decide (0 < n))]) ∧ Below w.heap.size w w' := by
  subst e0; exact counter_Next.calls _ A c l _ _ w hr hc (next_f l hl)
theorem rNext_c (A : Option Addr) (c : Nat) (l : List S26) (n : Nat) (e0 : l.length = n) (w : World) (hr : Kd.C k26 w A n l) (hc : n ≤ c) (hl : n ≤ 1000000) : Calls Try.prog 24 #[.slice A n c] w fun e w' => e = .returned (.tuple #[.int .i64 (nxT l n), .bool (decide (0 < n))]) ∧ Drawn0 w w' := by
  subst e0; exact periluneref06_Next.calls _ A c l _ _ w hr hc (rnext_f l hl _ (Nat.le_refl _))

/-! ### Serve -/
def pS (l : List S26) : S26 := rd_T26 l (nxT l l.length)
def sE (l : List S26) (er : List Int) : Int := if l.length = 0 then 14 else if (pS l).f0 < 0 ∨ (pS l).f0 ≥ (er.length : Int) then 9 else apE (pS l).f1
def sL (l : List S26) (er : List Int) : List S26 := if sE l er = 0 then l.take (nxT l l.length).toNat ++ l.drop (nxT l l.length + 1).toNat else []
def sA (l : List S26) (er : List Int) : Int := if sE l er = 0 then (pS l).f0 else 0
def sW (l : List S26) (er : List Int) : Int := if sE l er = 0 then apN (rd er (pS l).f0 % 32768) (pS l).f1 else 0
def sS (l : List S26) (er : List Int) : Int := if sE l er = 0 then apS (rd er (pS l).f0 % 32768) (pS l).f1 else 0
theorem rserve_f (l : List S26) (er : List Int) (hl : l.length ≤ 1000000) (he : ∀ i : Int, 0 ≤ i → i < (er.length : Int) → 0 ≤ rd er i ∧ rd er i < 65536) : periluneref06_Serve.f (l.length + 10) l er = some (sL l er, sA l er, sW l er, sS l er, sE l er) := by
  unfold periluneref06_Serve.f
  rw [rnext_f l hl _ (by omega), Option.bind_some]
  by_cases c : l.length = 0
  · have e : sE l er = 14 := by unfold sE; rw [if_pos c]
    rw [if_neg (by rw [decide_eq_true_eq]; omega)]
    unfold sL sA sW sS
    rw [e]; rfl
  · obtain ⟨n0, n1⟩ := nxT_range l l.length (Nat.le_refl _)
    have n1 := n1 (by omega)
    have ep : rd_T26 l (nxT l l.length) = pS l := rfl
    rw [if_pos (decide_eq_true (by omega)), if_pos n0, if_pos n1, ep]
    have hj : ∀ b : Bool, (b = true ↔ ((pS l).f0 < 0 ∨ (pS l).f0 ≥ (er.length : Int))) → periluneref06_Serve.j0 (l.length + 10) l er (nxT l l.length) b (pS l).f0 (pS l).f1 = some (sL l er, sA l er, sW l er, sS l er, sE l er) := by
      intro b hb
      simp only [periluneref06_Serve.j0]
      by_cases d : (pS l).f0 < 0 ∨ (pS l).f0 ≥ (er.length : Int)
      · have e : sE l er = 9 := by unfold sE; rw [if_neg c, if_pos d]
        rw [if_pos (hb.2 d)]
        unfold sL sA sW sS
        rw [e]; rfl
      · have e : sE l er = apE (pS l).f1 := by unfold sE; rw [if_neg c, if_neg d]
        have hr := he (pS l).f0 (by omega) (by omega)
        have ra : periluneref06_Apply.f (l.length + 9) (rd er (pS l).f0) (pS l).f1 = _ := at_rounds (g := fun k => periluneref06_Apply.f k (rd er (pS l).f0) (pS l).f1) (periluneref06_Apply.mono _ _) (show 1 ≤ l.length + 9 by omega) (refApply_f _ _ hr.1 hr.2)
        rw [if_neg (fun h => d (hb.1 h)), if_pos (by omega), if_pos (by omega), ra, Option.bind_some]
        unfold sL sA sW sS
        rw [e]
        by_cases f : apE (pS l).f1 = 0
        · rw [if_pos f, if_pos n0, if_pos (by omega), Option.bind_some, if_pos (by simp; omega), Option.bind_some, w64 (n := nxT l l.length + 1) (by omega) (by omega), if_pos (by omega), if_pos (by omega), Option.bind_some, if_pos (by simp; omega)]
          simp only [f, ↓reduceIte, List.nil_append]
        · simp only [if_neg f]
    by_cases d : (pS l).f0 < 0
    · rw [if_pos d]; exact hj true (by simp [d])
    · rw [if_neg d]; exact hj _ (by rw [decide_eq_true_eq]; constructor <;> intro h; exact Or.inr h; rcases h with h | h; exact absurd h d; exact h)
end Go.Proofs.Ytebnodldfddbnaa.Cnt
